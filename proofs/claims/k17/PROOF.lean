import PyProof.Rows.All
import Wide.All
import OpenK.AllK
import Wide.FinOn
import PyProof.ReprReads
import HandS.List
import HandS.Text
import HandS.ForMost
import HandS.ForExc
import HandS.Wide
import HandS.TupAny
import HandS.TupMul
import HandS.IsInst
import HandS.Style
import HandS.RaiseMore
import HandS.Flow
import HandS.Star
import HandS.Conv
import HandS.Defaults
import HandS.Ends
import HandS.HeadEnd
import PyProof.ReprLen
import PyProof.TableCode
import KE.KStateDown
import Lean
import HandS.Deep
import HandS.Zip
import PyProof.FactsAll.list_0
import HandS.Head0
import HandS.Head1
import HandS.Head2
import HandS.HeadHook1
import HandS.HeadHook2
import HandS.Words
import PySem.Challenge.RW_madeofhere_k17_texts_back_and_forth
set_option linter.all false
/-! PfCore: abstract values, the small AST, the evaluator -/
namespace Pf
open PySem

/-- abstract values: tuples and frozen lists are plain data; ref n: the n-th cell of the store; scr: the script -/
inductive D where
  | non | bl (b : Bool) | int (i : Int) | str (s : List Nat) | tup (l : List D) | lst (l : List D) | ref (n : Nat) | scr (l : List D)
  deriving Inhabited

/-- a cell of the store -/
inductive Ob where
  | dead | lst (l : List D) | dic (l : List (D × D))
  deriving Inhabited
abbrev Store := List Ob

/-- an outcome: a value; an exception (its class, its fields); nothing is said -/
inductive R (α : Type) where
  | ok (a : α) (S : Store) | exc (c : Nat) (fs : List D) (S : Store) | no
  deriving Inhabited
abbrev M (α : Type) := Store → R α
@[inline] def M.pure {α : Type} (a : α) : M α := fun S => .ok a S
@[inline] def M.bind {α β : Type} (m : M α) (f : α → M β) : M β := fun S => match m S with
  | .ok a S' => f a S'
  | .exc c fs S' => .exc c fs S'
  | .no => .no
instance : Monad M where
  pure := M.pure
  bind := M.bind
def no {α : Type} : M α := fun _ => .no
def get : M Store := fun S => .ok S S
def put (S : Store) : M Unit := fun _ => .ok () S
def alloc (o : Ob) : M D := fun S => .ok (.ref S.length) (S ++ [o])
def ofO {α : Type} : Option α → M α
  | some a => pure a
  | none => no
/-- goes on only where c holds -/
def need (c : Bool) : M Unit := if c then pure () else no

/-! ### closed data -/
mutual
/-- no cell of the store in it, signs are signs -/
def cl : D → Bool
  | .non => true
  | .bl _ => true
  | .int _ => true
  | .str s => s.all (· < 0x110000)
  | .tup l => cls l
  | .lst l => cls l
  | .ref _ => false
  | .scr _ => false
def cls : List D → Bool
  | [] => true
  | x :: xs => cl x && cls xs
end
mutual
def toPy : D → PyData
  | .non => .none
  | .bl b => .bool b
  | .int i => .int i
  | .str s => .str ⟨s.toArray⟩
  | .tup l => .tuple (toPys l)
  | .lst l => .list (toPys l)
  | .ref _ => .none
  | .scr _ => .none
def toPys : List D → List PyData
  | [] => []
  | x :: xs => toPy x :: toPys xs
end
mutual
def dep : D → Nat
  | .tup l => deps l + 1
  | .lst l => deps l + 1
  | _ => 0
def deps : List D → Nat
  | [] => 0
  | x :: xs => max (dep x) (deps xs)
end
mutual
def eqD : D → D → Bool
  | .non, .non => true
  | .bl a, .bl b => a == b
  | .bl a, .int j => (if a then 1 else 0) == j
  | .int i, .bl b => i == (if b then 1 else 0)
  | .int i, .int j => i == j
  | .str x, .str y => x == y
  | .tup xs, .tup ys => eqDs xs ys
  | .lst xs, .lst ys => eqDs xs ys
  | _, _ => false
def eqDs : List D → List D → Bool
  | [], [] => true
  | x :: xs, y :: ys => eqD x y && eqDs xs ys
  | _, _ => false
end
/-- data that == and repr take -/
def okD (d : D) : Bool := cl d && decide (dep d ≤ 60)
/-- a live list read as data -/
def der (S : Store) : D → D
  | .ref n => match S[n]? with
    | some (.lst l) => .lst l
    | _ => .ref n
  | d => d

mutual
/-- every cell named lies below -/
def below (b : Nat) : D → Bool
  | .tup l => belows b l
  | .lst l => belows b l
  | .scr l => belows b l
  | .ref n => decide (n < b)
  | .non => true
  | .bl _ => true
  | .int _ => true
  | .str _ => true
def belows (b : Nat) : List D → Bool
  | [] => true
  | x :: xs => below b x && belows b xs
end
def obB (b : Nat) : Ob → Bool
  | .dead => true
  | .lst l => belows b l
  | .dic l => belows b (l.map (·.2))
/-! ### the AST -/
inductive Op where
  | add | sub | mul | fdiv | mod | pow | mulS
inductive Cop where
  | eq | ne | lt | le | gt | ge | isin | notin | is | isnot | inS | notinS | inD | notinD
inductive Bi where
  | len | int | list (m : Bool) | tuple | abs | max2 | min2 | all | any | repr | max1 | min1 | sum | sorted | str | intS
inductive Mt where
  | append | extend | pop | index | join | split
inductive Ty where
  | int | bool | str | tuple | list
inductive Pt where
  | name (i : Nat) | tup (ps : List Pt)
mutual
inductive E where
  | var (i : Nat)
  | con (d : D)
  | bin (op : Op) (a b : E)
  | neg (a : E)
  | not (a : E)
  | cmp (op : Cop) (a b : E)
  | cmp2 (o1 o2 : Cop) (a b c : E)
  | and (a b : E)
  | or (a b : E)
  | ite (c a b : E)
  | tup (es : Es)
  | lst (m : Bool) (es : Es)
  | call (f : Nat) (es : Es)
  | bi (b : Bi) (es : Es)
  | mth (m : Mt) (o : E) (es : Es)
  | idx (a i : E)
  | sli (a : E) (lo hi : Oe)
  | rev (m : Bool) (a : E)
  | isi (a : E) (t : Ty)
  | dic (ks : List D) (vs : Es)
  | comp (m : Bool) (own : List Nat) (p : Pt) (src : Sc) (c : Oe) (elt : E)
  | comp2 (m : Bool) (own own1 : List Nat) (p : Pt) (src : Sc) (c : Oe) (p1 : Pt) (src1 : Sc) (c1 : Oe) (elt : E)
  | frz (a : E)
  | lrng (m : Bool) (a : E)
  | binL (op : Op) (a b : E)
  | bad
inductive Es where
  | nil | cons (e : E) (es : Es) | star (e : E) (es : Es)
inductive Oe where
  | none | some (e : E)
/-- what is walked -/
inductive Sc where
  | seq (e : E) | enum (e : E) | zip (a b : E) | rng1 (a : E) | rng2 (a b : E) | rng3 (a b : E) | sgn (e : E)
end
/-- what is assigned to -/
inductive Tg where
  | name (i : Nat) | tup (ts : List Tg) | sub (o i : E)
inductive St where
  | skip
  | seq (a b : St)
  | asg (t : Tg) (e : E)
  | ifs (c : E) (a b : St)
  | for (p : Pt) (src : Sc) (b : St)
  | whl (c : E) (b : St)
  | ret (e : E)
  | ex (e : E)
  | stop
structure Fn where
  /-- how many parameters, how many slots -/
  ps : Nat
  n : Nat
  body : St
  /-- the result is frozen and what the call made is forgotten -/
  pure : Bool

/-! ### operations -/
def B64 : Nat := 2 ^ 63
def BIG : Nat := 2 ^ 400000
def mulOk (a b : Int) : Bool := a.natAbs < B64 || (b.natAbs < B64 || (a.natAbs < BIG && b.natAbs < BIG))
def LINE : Nat := 16777216
def truth : D → Option Bool
  | .bl b => some b
  | _ => none
def getL (S : Store) : D → Option (List D)
  | .lst l => some l
  | .ref n => match S[n]? with
    | some (.lst l) => some l
    | _ => none
  | _ => none
/-- a list or a tuple -/
def getS (S : Store) : D → Option (List D)
  | .tup l => some l
  | .scr l => some l
  | d => getL S d
def mkL (m : Bool) (l : List D) : M D := if m then alloc (.lst l) else pure (.lst l)

def catF (m : Bool) (l r : List D) : M D := do
  need (decide (l.length + r.length ≤ LINE))
  mkL m (l ++ r)
def opF (op : Op) (a b : D) : M D := fun S => match op, a, b with
  | .add, .int i, .int j => .ok (.int (i + j)) S
  | .sub, .int i, .int j => .ok (.int (i - j)) S
  | .mul, .int i, .int j => if mulOk i j then .ok (.int (i * j)) S else .no
  | .fdiv, .int i, .int j => if j ≠ 0 ∧ j.natAbs < 2 ^ 8999 then .ok (.int (i.fdiv j)) S else .no
  | .mod, .int i, .int j => if j ≠ 0 then .ok (.int (i.fmod j)) S else .no
  | .pow, .int i, .int j => if 0 ≤ j ∧ j ≤ 1000 ∧ i.natAbs < B64 then .ok (.int (i ^ j.toNat)) S else .no
  | .add, .tup xs, .tup ys => if xs.length + ys.length ≤ LINE then .ok (.tup (xs ++ ys)) S else .no
  | .mul, .tup xs, .int k => if xs.isEmpty = false ∧ 2 ≤ k ∧ k ≤ 1000 ∧ xs.length ≤ 1000 then .ok (.tup (List.replicate k.toNat xs).flatten) S else .no
  | .mulS, .str xs, .int k => if 0 ≤ k ∧ k ≤ 1000 ∧ xs.length ≤ 1000 then .ok (.str (List.replicate k.toNat xs).flatten) S else .no
  | .add, .str xs, .str ys => if xs.length + ys.length ≤ LINE then .ok (.str (xs ++ ys)) S else .no
  | .add, a, b => match getL S a, getL S b with
    | some xs, some ys => if xs.length + ys.length ≤ LINE then .ok (.lst (xs ++ ys)) S else .no
    | _, _ => .no
  | .mul, a, .int k => match getL S a with
    | some xs => if xs.length * k.toNat ≤ LINE ∧ k < 2 ^ 60 ∧ -(2 ^ 60) < k then .ok (.lst (List.replicate k.toNat xs).flatten) S else .no
    | none => .no
  | _, _, _ => .no
/-- a list that is written later -/
def opL (op : Op) (a b : D) : M D := fun S => match op with
  | .add => match getL S a, getL S b with
    | some xs, some ys => if xs.length + ys.length ≤ LINE then alloc (.lst (xs ++ ys)) S else .no
    | _, _ => .no
  | .mul => match getL S a, b with
    | some xs, .int k => if xs.length * k.toNat ≤ LINE ∧ k < 2 ^ 60 ∧ -(2 ^ 60) < k then alloc (.lst (List.replicate k.toNat xs).flatten) S else .no
    | _, _ => .no
  | _ => .no
def flat : D → Bool
  | .non => true
  | .bl _ => true
  | .int _ => true
  | .str _ => true
  | _ => false
/-- a list or a tuple, not the script -/
def getD (S : Store) : D → Option (List D)
  | .tup l => some l
  | d => getL S d
def cmpF (op : Cop) (a b : D) : M D := fun S => match op with
  | .eq => if okD (der S a) && okD (der S b) then .ok (.bl (eqD (der S a) (der S b))) S else .no
  | .ne => if okD (der S a) && okD (der S b) then .ok (.bl (!eqD (der S a) (der S b))) S else .no
  | .lt => match a, b with | .int i, .int j => .ok (.bl (decide (i < j))) S | _, _ => .no
  | .le => match a, b with | .int i, .int j => .ok (.bl (decide (i ≤ j))) S | _, _ => .no
  | .gt => match a, b with | .int i, .int j => .ok (.bl (decide (j < i))) S | _, _ => .no
  | .ge => match a, b with | .int i, .int j => .ok (.bl (decide (j ≤ i))) S | _, _ => .no
  | .isin => match getS S b with
    | some l => if flat a && l.all flat then .ok (.bl (l.any fun x => eqD x a)) S else .no
    | none => .no
  | .notin => match getS S b with
    | some l => if flat a && l.all flat then .ok (.bl (!l.any fun x => eqD x a)) S else .no
    | none => .no
  | .inS => match a, b with
    | .str [c], .str z => .ok (.bl (decide (c ∈ z))) S
    | _, _ => .no
  | .notinS => match a, b with
    | .str [c], .str z => .ok (.bl (!decide (c ∈ z))) S
    | _, _ => .no
  | .inD => match getD S b with
    | some l => if okD (der S a) && okD (.tup l) then .ok (.bl (l.any fun x => eqD x (der S a))) S else .no
    | none => .no
  | .notinD => match getD S b with
    | some l => if okD (der S a) && okD (.tup l) then .ok (.bl (!l.any fun x => eqD x (der S a))) S else .no
    | none => .no
  | .is => match a, b with
    | .ref _, _ => .no
    | .non, .non => .ok (.bl true) S
    | _, .non => .ok (.bl false) S
    | _, _ => .no
  | .isnot => match a, b with
    | .ref _, _ => .no
    | .non, .non => .ok (.bl false) S
    | _, .non => .ok (.bl true) S
    | _, _ => .no
def keyOk : D → Bool
  | .int _ => true
  | .str _ => true
  | _ => false
def lookD (k : D) : List (D × D) → Option D
  | [] => none
  | (a, v) :: r => if eqD a k then some v else lookD k r
def putD (k v : D) (l : List (D × D)) : List (D × D) :=
  if l.any (fun p => eqD p.1 k) then l.map (fun p => if eqD p.1 k then (p.1, v) else p) else l ++ [(k, v)]
def idxF (a i : D) : M D := fun S => match a, i with
  | .tup l, .int k => match L2.atI l k with | some d => .ok d S | none => .no
  | .lst l, .int k => match L2.atI l k with | some d => .ok d S | none => .no
  | .str l, .int k => match L2.atI l k with | some c => if l.length ≤ LINE then .ok (.str [c]) S else .no | none => .no
  | .ref n, k => match S[n]? with
    | some (.lst l) => match k with
      | .int k => match L2.atI l k with | some d => .ok d S | none => .no
      | _ => .no
    | some (.dic kvs) => if keyOk k then match lookD k kvs with | some d => .ok d S | none => .no else .no
    | _ => .no
  | _, _ => .no
def setF (o i v : D) : M Unit := fun S => match o, i with
  | .ref n, k => match S[n]? with
    | some (.lst l) => match k with
      | .int k => match L2.ixN l.length k with | some j => if below n v then .ok () (S.set n (.lst (l.set j v))) else .no | none => .no
      | _ => .no
    | some (.dic kvs) => if keyOk k && decide (kvs.length < LINE) && below n v then .ok () (S.set n (.dic (putD k v kvs))) else .no
    | _ => .no
  | _, _ => .no
def cut {α : Type} (xs : List α) (lo hi : Option Int) : List α := (xs.drop (HT.sIx xs.length 0 lo)).take (HT.sIx xs.length xs.length hi - HT.sIx xs.length 0 lo)
def sliF (a : D) (lo hi : Option Int) : M D := fun S => match a with
  | .tup l => .ok (.tup (cut l lo hi)) S
  | .str l => if l.length ≤ LINE then .ok (.str (cut l lo hi)) S else .no
  | d => match getL S d with
    | some l => .ok (.lst (cut l lo hi)) S
    | none => .no
inductive Kd where
  | none | bool | int | str | tuple | list | dict
/-- the kind of a value -/
def kdD (S : Store) : D → Option Kd
  | .non => some .none
  | .bl _ => some .bool
  | .int _ => some .int
  | .str _ => some .str
  | .tup _ => some .tuple
  | .lst _ => some .list
  | .ref n => match S[n]? with
    | some (.lst _) => some .list
    | some (.dic _) => some .dict
    | _ => none
  | .scr _ => none
def isK : Ty → Kd → Bool
  | .int, .int => true
  | .int, .bool => true
  | .bool, .bool => true
  | .str, .str => true
  | .tuple, .tuple => true
  | .list, .list => true
  | _, _ => false
def isiF (t : Ty) (a : D) : M D := fun S => match kdD S a with
  | some k => .ok (.bl (isK t k)) S
  | none => .no
def allB : List D → Option Bool
  | [] => some true
  | .bl b :: r => (allB r).map (b && ·)
  | _ => none
def anyB : List D → Option Bool
  | [] => some false
  | .bl b :: r => (anyB r).map (b || ·)
  | _ => none
def asInts : List D → Option (List Int)
  | [] => some []
  | .int i :: r => (asInts r).map (i :: ·)
  | _ => none
def asStrs : List D → Option (List (List Nat))
  | [] => some []
  | .str s :: r => (asStrs r).map (s :: ·)
  | _ => none
def digB (s : List Nat) : Bool := s.all (fun c => decide (48 ≤ c) && decide (c ≤ 57)) && !s.isEmpty && decide (s.length ≤ 600)
def decS (i : Int) : List Nat := (Str.ofString (toString i)).cps.toList
def shownD (d : D) : List Nat := (toPy d).shown.cps.toList
def bi1 (b : Bi) (a : D) : M D := fun S => match b with
  | .len => match a with
    | .str s => if s.length ≤ LINE then .ok (.int s.length) S else .no
    | .ref n => match S[n]? with
      | some (.lst l) => .ok (.int l.length) S
      | some (.dic l) => .ok (.int l.length) S
      | _ => .no
    | d => match getS S d with | some l => .ok (.int l.length) S | none => .no
  | .int => match a with
    | .int i => .ok (.int i) S
    | .bl b => .ok (.int (if b then 1 else 0)) S
    | _ => .no
  | .list m => match getS S a with | some l => mkL m l S | none => .no
  | .tuple => match a with
    | .tup l => .ok (.tup l) S
    | d => match getL S d with | some l => .ok (.tup l) S | none => .no
  | .abs => match a with
    | .int i => .ok (.int (if i < 0 then -i else i)) S
    | _ => .no
  | .all => match getL S a with | some l => (match allB l with | some b => .ok (.bl b) S | none => .no) | none => .no
  | .any => match getL S a with | some l => (match anyB l with | some b => .ok (.bl b) S | none => .no) | none => .no
  | .str => match a with
    | .int i => if i.natAbs.log2 < 1920 then .ok (.str (decS i)) S else .no
    | _ => .no
  | .intS => match a with
    | .str s => if digB s then .ok (.int (NumText.digitsVal s : Nat)) S else .no
    | _ => .no
  | .repr => if okD (der S a) && (toPy (der S a)).showable && decide ((shownD (der S a)).length ≤ LINE) then .ok (.str (shownD (der S a))) S else .no
  | _ => .no
def bi2 (b : Bi) (a c : D) : M D := fun S => match b with
  | .max2 => match a, c with
    | .int i, .int j => .ok (.int (if j > i then j else i)) S
    | _, _ => .no
  | .min2 => match a, c with
    | .int i, .int j => .ok (.int (if j < i then j else i)) S
    | _, _ => .no
  | _ => .no
def biF (b : Bi) (as : List D) : M D := match as with
  | [a] => bi1 b a
  | [a, c] => bi2 b a c
  | _ => no
def mthF (m : Mt) (o : D) (as : List D) : M D := fun S => match m, o, as with
  | .append, .ref n, [x] => match S[n]? with
    | some (.lst l) => if l.length < LINE ∧ below n x = true then .ok .non (S.set n (.lst (l ++ [x]))) else .no
    | _ => .no
  | .extend, .ref n, [x] => match S[n]?, getL S x with
    | some (.lst l), some r => if l.length + r.length ≤ LINE ∧ belows n r = true then .ok .non (S.set n (.lst (l ++ r))) else .no
    | _, _ => .no
  | .pop, .ref n, [] => match S[n]? with
    | some (.lst l) => match l[l.length - 1]? with
      | some x => .ok x (S.set n (.lst l.dropLast))
      | none => .no
    | _ => .no
  | .join, .str a, [x] => match getD S x with
    | some l => match asStrs l with
      | some ys => if (ys.map (·.length)).sum + ys.length * a.length ≤ LINE then .ok (.str (TL.joinL a ys)) S else .no
      | none => .no
    | none => .no
  | .split, .str a, [.str b] => if b.isEmpty = false ∧ b.all (· < 256) = true ∧ a.length + 2 ≤ LINE then .ok (.lst ((TL.spl b 0 [] a).map .str)) S else .no
  | _, _, _ => .no
def isS : D → Bool
  | .str _ => true
  | _ => false
/-- the receiver is of the method's type -/
def recvOk (m : Mt) (o : D) (S : Store) : Bool := match m with
  | .join => isS o
  | .split => isS o
  | _ => (getL S o).isSome
def frzF (d : D) : M D := fun S => match d with
  | .ref n => match S[n]? with
    | some (.lst l) => .ok (.lst l) (S.set n .dead)
    | _ => .no
  | d => .ok d S

def mergeD : List D → List D → List (D × D) → List (D × D)
  | k :: ks, v :: vs, acc => mergeD ks vs (putD k v acc)
  | _, _, acc => acc
def dicF (ks : List D) (vs : List D) : M D := fun S =>
  if ks.length = vs.length ∧ ks.all keyOk ∧ ks.length ≤ 15 then alloc (.dic (mergeD ks vs [])) S else .no
/-- as a test -/
def test (m : M D) : M Bool := do
  let x ← m
  ofO (truth x)

abbrev Ev := List (Option D)
mutual
def bindP : Pt → D → Ev → Option Ev
  | .name i, d, ρ => if i < ρ.length then some (ρ.set i (some d)) else none
  | .tup ps, .tup ds, ρ => bindPs ps ds ρ
  | .tup _, _, _ => none
def bindPs : List Pt → List D → Ev → Option Ev
  | [], [], ρ => some ρ
  | p :: ps, d :: ds, ρ => (bindP p d ρ).bind (bindPs ps ds)
  | _, _, _ => none
end
def wipeE (ρ : Ev) : List Nat → Ev
  | [] => ρ
  | v :: vs => (wipeE ρ vs).set v none
def ascend (lo : Int) : Nat → List D
  | 0 => []
  | n + 1 => .int lo :: ascend (lo + 1) n
def stepped (lo c : Int) : Nat → List D
  | 0 => []
  | n + 1 => .int lo :: stepped (lo + c) c n
def enumFrom (i : Nat) : List D → List D
  | [] => []
  | x :: xs => .tup [.int i, x] :: enumFrom (i + 1) xs
def zipD : List D → List D → List D
  | x :: xs, y :: ys => .tup [x, y] :: zipD xs ys
  | _, _ => []
def small (i : Int) : Bool := decide (-(2 ^ 24) ≤ i) && decide (i ≤ 2 ^ 24)
/-- the items of a frozen sequence -/
def getF : D → Option (List D)
  | .tup l => some l
  | .lst l => some l
  | .scr l => some l
  | _ => none
/-- an exception within is not followed -/
def noexc {α : Type} (m : M α) : M α := fun S => match m S with
  | .exc _ _ _ => .no
  | r => r
/-- each item's outcome, in order -/
def collect (f : D → M (Option D)) : List D → M (List D)
  | [] => pure []
  | x :: xs => do
    let y ← f x
    let ys ← collect f xs
    match y with
    | some y => pure (y :: ys)
    | none => pure ys
def collects (f : D → M (List D)) : List D → M (List D)
  | [] => pure []
  | x :: xs => do
    let y ← f x
    let ys ← collects f xs
    pure (y ++ ys)

mutual
def ev (cl : Nat → List D → M D) : E → Ev → M D
  | .var i, ρ => match ρ[i]? with
    | some (some d) => pure d
    | _ => no
  | .con d, _ => pure d
  | .bin op a b, ρ => do
    let x ← ev cl a ρ
    let y ← ev cl b ρ
    opF op x y
  | .neg a, ρ => do
    let x ← ev cl a ρ
    match x with
    | .int i => pure (.int (-i))
    | _ => no
  | .not a, ρ => do
    let b ← test (ev cl a ρ)
    pure (.bl (!b))
  | .cmp op a b, ρ => do
    let x ← ev cl a ρ
    let y ← ev cl b ρ
    cmpF op x y
  | .cmp2 o1 o2 a b c, ρ => do
    let x ← ev cl a ρ
    let y ← ev cl b ρ
    let r ← cmpF o1 x y
    match r with
    | .bl true => do
      let z ← ev cl c ρ
      cmpF o2 y z
    | .bl false => pure (.bl false)
    | _ => no
  | .and a b, ρ => do
    let x ← ev cl a ρ
    match x with
    | .bl true => ev cl b ρ
    | .bl false => pure (.bl false)
    | _ => no
  | .or a b, ρ => do
    let x ← ev cl a ρ
    match x with
    | .bl true => pure (.bl true)
    | .bl false => ev cl b ρ
    | _ => no
  | .ite c a b, ρ => do
    let x ← test (ev cl c ρ)
    if x then ev cl a ρ else ev cl b ρ
  | .tup es, ρ => do
    let xs ← evs cl es ρ
    need (decide (xs.length ≤ LINE))
    pure (.tup xs)
  | .lst m es, ρ => do
    let xs ← evs cl es ρ
    need (decide (xs.length ≤ LINE))
    mkL m xs
  | .call f es, ρ => do
    let xs ← evs cl es ρ
    cl f xs
  | .bi b es, ρ => do
    let xs ← evs cl es ρ
    biF b xs
  | .mth m o es, ρ => do
    let x ← ev cl o ρ
    let S ← get
    need (recvOk m x S)
    let xs ← evs cl es ρ
    mthF m x xs
  | .idx a i, ρ => do
    let x ← ev cl a ρ
    let y ← ev cl i ρ
    idxF x y
  | .sli a lo hi, ρ => do
    let x ← ev cl a ρ
    let l ← evO cl lo ρ
    let h ← evO cl hi ρ
    sliF x l h
  | .rev m a, ρ => do
    let x ← ev cl a ρ
    let S ← get
    match getL S x with
    | some l => mkL m l.reverse
    | none => no
  | .isi a t, ρ => do
    let x ← ev cl a ρ
    isiF t x
  | .dic ks vs, ρ => do
    let xs ← evs cl vs ρ
    dicF ks xs
  | .comp m own p src c elt, ρ => do
    let items ← evI cl src ρ
    let ys ← noexc <| collect (fun d => match bindP p d (wipeE ρ own) with
      | none => no
      | some ρ' => do
        let b ← evC cl c ρ'
        if b then do
          let y ← ev cl elt ρ'
          pure (some y)
        else pure none) items
    need (decide (ys.length ≤ LINE))
    mkL m ys
  | .comp2 m own own1 p src c p1 src1 c1 elt, ρ => do
    let items ← evI cl src ρ
    let ys ← noexc <| collects (fun d => match bindP p d (wipeE ρ own) with
      | none => no
      | some ρ' => do
        let b ← evC cl c ρ'
        if b then do
          let items1 ← evI cl src1 ρ'
          collect (fun d1 => match bindP p1 d1 (wipeE ρ' own1) with
            | none => no
            | some ρ'' => do
              let b ← evC cl c1 ρ''
              if b then do
                let y ← ev cl elt ρ''
                pure (some y)
              else pure none) items1
        else pure []) items
    need (decide (ys.length ≤ LINE))
    mkL m ys
  | .frz a, ρ => do
    let x ← ev cl a ρ
    frzF x
  | .lrng m a, ρ => do
    let x ← ev cl a ρ
    match x with
    | .int i => if small i then mkL m (ascend 0 i.toNat) else no
    | _ => no
  | .binL op a b, ρ => do
    let x ← ev cl a ρ
    let y ← ev cl b ρ
    opL op x y
  | .bad, _ => no
def evs (cl : Nat → List D → M D) : Es → Ev → M (List D)
  | .nil, _ => pure []
  | .cons e es, ρ => do
    let x ← ev cl e ρ
    let xs ← evs cl es ρ
    pure (x :: xs)
  | .star e es, ρ => do
    let x ← ev cl e ρ
    let S ← get
    match getS S x with
    | none => no
    | some l => do
      let xs ← evs cl es ρ
      pure (l ++ xs)
def evO (cl : Nat → List D → M D) : Oe → Ev → M (Option Int)
  | .none, _ => pure none
  | .some e, ρ => do
    let x ← ev cl e ρ
    match x with
    | .int i => pure (some i)
    | _ => no
def evC (cl : Nat → List D → M D) : Oe → Ev → M Bool
  | .none, _ => pure true
  | .some e, ρ => test (ev cl e ρ)
def evI (cl : Nat → List D → M D) : Sc → Ev → M (List D)
  | .seq e, ρ => do
    let x ← ev cl e ρ
    ofO (getF x)
  | .sgn e, ρ => do
    let x ← ev cl e ρ
    match x with
    | .str s => if s.length ≤ LINE then pure (s.map fun c => .str [c]) else no
    | _ => no
  | .enum e, ρ => do
    let x ← ev cl e ρ
    match x with
    | .lst l => pure (enumFrom 0 l)
    | .scr l => pure (enumFrom 0 l)
    | _ => no
  | .zip a b, ρ => do
    let x ← ev cl a ρ
    let y ← ev cl b ρ
    match getF x, getF y with
    | some l, some r => pure (zipD l r)
    | _, _ => no
  | .rng1 a, ρ => do
    let x ← ev cl a ρ
    match x with
    | .int i => if small i then pure (ascend 0 i.toNat) else no
    | _ => no
  | .rng2 a b, ρ => do
    let x ← ev cl a ρ
    let y ← ev cl b ρ
    match x, y with
    | .int i, .int j => if small i && small j then pure (ascend i (j - i).toNat) else no
    | _, _ => no
  | .rng3 a b, ρ => do
    let x ← ev cl a ρ
    let y ← ev cl b ρ
    match x, y with
    | .int i, .int j => if small i && small j then pure (stepped i (-1) (i - j).toNat) else no
    | _, _ => no
end

/-! ### statements and calls -/
mutual
def bindT (cl : Nat → List D → M D) : Tg → D → Ev → M Ev
  | .name i, d, ρ => if i < ρ.length then pure (ρ.set i (some d)) else no
  | .tup ts, d, ρ => match d with
    | .tup ds => bindTs cl ts ds ρ
    | _ => no
  | .sub o i, d, ρ => do
    let x ← ev cl o ρ
    let y ← ev cl i ρ
    setF x y d
    pure ρ
def bindTs (cl : Nat → List D → M D) : List Tg → List D → Ev → M Ev
  | [], ds, ρ => match ds with
    | [] => pure ρ
    | _ => no
  | t :: ts, ds, ρ => match ds with
    | d :: ds => do
      let ρ' ← bindT cl t d ρ
      bindTs cl ts ds ρ'
    | [] => no
end
inductive Fl where
  | nx (ρ : Ev) | rt (d : D)
def forF (f : D → Ev → M Fl) : List D → Ev → M Fl
  | [], ρ => pure (.nx ρ)
  | x :: xs, ρ => do
    let r ← f x ρ
    match r with
    | .nx ρ' => forF f xs ρ'
    | .rt d => pure (.rt d)
def whlF (c : Ev → M Bool) (f : Ev → M Fl) : Nat → Ev → M Fl
  | 0, _ => no
  | n + 1, ρ => do
    let b ← c ρ
    if b then do
      let r ← f ρ
      match r with
      | .nx ρ' => whlF c f n ρ'
      | .rt d => pure (.rt d)
    else pure (.nx ρ)
/-- the fuel of a while -/
def WF : Nat := 2 ^ 100000
def exec (cl : Nat → List D → M D) : St → Ev → M Fl
  | .skip, ρ => pure (.nx ρ)
  | .seq a b, ρ => do
    let r ← exec cl a ρ
    match r with
    | .nx ρ' => exec cl b ρ'
    | .rt d => pure (.rt d)
  | .asg t e, ρ => do
    let x ← ev cl e ρ
    let ρ' ← bindT cl t x ρ
    pure (.nx ρ')
  | .ifs c a b, ρ => do
    let x ← test (ev cl c ρ)
    if x then exec cl a ρ else exec cl b ρ
  | .for p src b, ρ => do
    let items ← evI cl src ρ
    forF (fun d ρ => match bindP p d ρ with
      | none => no
      | some ρ' => exec cl b ρ') items ρ
  | .whl c b, ρ => whlF (fun ρ => test (ev cl c ρ)) (fun ρ => exec cl b ρ) WF ρ
  | .ret e, ρ => do
    let x ← ev cl e ρ
    pure (.rt x)
  | .ex e, ρ => do
    let _ ← ev cl e ρ
    pure (.nx ρ)
  | .stop, _ => no

mutual
/-- the lists that were made from b on are frozen -/
def fz (S : Store) (b : Nat) : D → Option D
  | .tup l => (fzs S b l).map .tup
  | .lst l => if belows b l then some (.lst l) else none
  | .scr l => if belows b l then some (.scr l) else none
  | .ref n => if n < b then some (.ref n) else match S[n]? with
    | some (.lst l) => if belows b l then some (.lst l) else none
    | _ => none
  | .non => some .non
  | .bl x => some (.bl x)
  | .int i => some (.int i)
  | .str s => some (.str s)
def fzs (S : Store) (b : Nat) : List D → Option (List D)
  | [] => some []
  | x :: xs => match fz S b x, fzs S b xs with
    | some y, some ys => some (y :: ys)
    | _, _ => none
end
def finF (p : Bool) (b : Nat) (d : D) : M D := fun S => if p then
    match fz S b d with
    | some d' => .ok d' (S.take b)
    | none => .no
  else .ok d S
def callF (F : Nat → Option Fn) : Nat → Nat → List D → M D
  | 0, _, _ => no
  | k + 1, f, as => fun S => match F f with
    | none => .no
    | some fn => if as.length = fn.ps then
        match exec (callF F k) fn.body (as.map some ++ List.replicate (fn.n - fn.ps) none) S with
        | .ok (.rt d) S' => finF fn.pure S.length d S'
        | .ok (.nx _) S' => finF fn.pure S.length .non S'
        | .exc c fs S' => if fn.pure then (match fzs S' S.length fs with
            | some fs' => .exc c fs' (S'.take S.length)
            | none => .no) else .exc c fs S'
        | .no => .no
      else .no
end Pf

set_option linter.all false
set_option Elab.async false
set_option maxRecDepth 100000
set_option autoImplicit false
/-! PfRel: how abstract states stand to the layer's heaps -/
namespace Pf
open PySem L2

/-- where the cells stand (none: a dead one); what else is being written -/
structure Loc where
  c : List (Option Addr)
  h : List Addr
def Live (loc : Loc) (a : Addr) : Prop := some a ∈ loc.c ∨ a ∈ loc.h
def Loc.push (loc : Loc) (p : Addr) : Loc := { loc with c := loc.c ++ [some p] }
def Loc.kill (loc : Loc) (n : Nat) : Loc := { loc with c := loc.c.set n none }
def Loc.hide (loc : Loc) (p : Addr) : Loc := { loc with h := p :: loc.h }
/-- a tuple of the module's written part -/
def KT (K : PySem.W.Frag) (a : Addr) (xs : List V) : Prop :=
  ∃ (o : Obj) (its : Array Value) (n : Nat), K.lookup a = some o ∧ o.cls = .type "tuple" ∧ o.data = .seq its n ∧ its.size ≤ sizeLine ∧ Vals xs its.toList
/-- at a stands u, and it is no live cell -/
def Fz (H : Hp) (loc : Loc) (a : Addr) (u : HO) : Prop := Rd H a u ∧ ¬ Live loc a
mutual
inductive RelD (K : PySem.W.Frag) (H : Hp) (loc : Loc) : D → V → Prop
  | non : RelD K H loc .non .non
  | bl (b : Bool) : RelD K H loc (.bl b) (.bl b)
  | int (i : Int) : RelD K H loc (.int i) (.int i)
  | str (s : List Nat) : RelD K H loc (.str s) (.str ⟨s.toArray⟩)
  | tup {a : Addr} {xs : List V} {l : List D} : Fz H loc a (.tup xs) → RelDs K H loc l xs → RelD K H loc (.tup l) (.ref a)
  | tupK {a : Addr} {xs : List V} {l : List D} : KT K a xs → RelDs K H loc l xs → RelD K H loc (.tup l) (.ref a)
  | lst {a : Addr} {xs : List V} {l : List D} : H a = some (.lst xs) → ¬ Live loc a → RelDs K H loc l xs → RelD K H loc (.lst l) (.ref a)
  | scr {a : Addr} {xs : List V} {l : List D} : (Fz H loc a (.lst xs) ∨ (∀ H, SqL K H a xs)) → RelDs K H loc l xs → RelD K H loc (.scr l) (.ref a)
  | ref {n : Nat} {v : V} : n < loc.c.length → (∀ a, loc.c[n]? = some (some a) → v = .ref a) → RelD K H loc (.ref n) v
inductive RelDs (K : PySem.W.Frag) (H : Hp) (loc : Loc) : List D → List V → Prop
  | nil : RelDs K H loc [] []
  | cons {d : D} {v : V} {ds : List D} {vs : List V} : RelD K H loc d v → RelDs K H loc ds vs → RelDs K H loc (d :: ds) (v :: vs)
end

/-- what stays if it is no live cell (a new dict is filled behind its making) -/
def dat : HO → Bool
  | .dK _ => false
  | .dT _ => false
  | _ => true
/-- a step: what is no live cell stays -/
structure Le (loc : Loc) (H : Hp) (loc' : Loc) (H' : Hp) : Prop where
  keep : ∀ a o, H a = some o → ¬ Live loc a → H' a = some o ∧ ¬ Live loc' a
  idx : ∀ (n : Nat) (a : Addr), loc'.c[n]? = some (some a) → n < loc.c.length → loc.c[n]? = some (some a)
  len : loc.c.length ≤ loc'.c.length
  hid : loc'.h = loc.h
  hk : ∀ a ∈ loc.h, H' a = H a
/-- the same of tuples and lists alone -/
structure LeD (loc : Loc) (H : Hp) (loc' : Loc) (H' : Hp) : Prop where
  keep : ∀ a o, H a = some o → dat o = true → ¬ Live loc a → H' a = some o ∧ ¬ Live loc' a
  idx : ∀ (n : Nat) (a : Addr), loc'.c[n]? = some (some a) → n < loc.c.length → loc.c[n]? = some (some a)
  len : loc.c.length ≤ loc'.c.length
theorem Le.d {loc loc' : Loc} {H H' : Hp} (le : Le loc H loc' H') : LeD loc H loc' H' := ⟨fun a o h _ n => le.keep a o h n, le.idx, le.len⟩
theorem Le.refl {loc : Loc} {H : Hp} : Le loc H loc H := ⟨fun _ _ h n => ⟨h, n⟩, fun _ _ h _ => h, Nat.le_refl _, rfl, fun _ _ => rfl⟩
theorem Le.trans {l1 l2 l3 : Loc} {H1 H2 H3 : Hp} (a : Le l1 H1 l2 H2) (b : Le l2 H2 l3 H3) : Le l1 H1 l3 H3 :=
  ⟨fun x o h n => let ⟨h2, n2⟩ := a.keep x o h n; b.keep x o h2 n2, fun n x h hn => a.idx n x (b.idx n x h (Nat.lt_of_lt_of_le hn a.len)) hn, Nat.le_trans a.len b.len, b.hid.trans a.hid, fun x hx => (b.hk x (by rw [a.hid]; exact hx)).trans (a.hk x hx)⟩
theorem LeD.trans {l1 l2 l3 : Loc} {H1 H2 H3 : Hp} (a : LeD l1 H1 l2 H2) (b : LeD l2 H2 l3 H3) : LeD l1 H1 l3 H3 :=
  ⟨fun x o h k n => let ⟨h2, n2⟩ := a.keep x o h k n; b.keep x o h2 k n2, fun n x h hn => a.idx n x (b.idx n x h (Nat.lt_of_lt_of_le hn a.len)) hn, Nat.le_trans a.len b.len⟩
theorem Fz.monoD {H H' : Hp} {loc loc' : Loc} {a : Addr} {u : HO} (f : Fz H loc a u) (k : dat u = true) (le : LeD loc H loc' H') : Fz H' loc' a u := by
  obtain ⟨r, n⟩ := f
  rcases r with h | ⟨o, h⟩
  · exact ⟨.inl (le.keep a _ h k n).1, (le.keep a _ h k n).2⟩
  · exact ⟨.inr ⟨o, (le.keep a _ h rfl n).1⟩, (le.keep a _ h rfl n).2⟩
mutual
theorem RelD.monoD {K : PySem.W.Frag} {H H' : Hp} {loc loc' : Loc} (le : LeD loc H loc' H') : ∀ {d : D} {v : V}, RelD K H loc d v → RelD K H' loc' d v
  | _, _, .non => .non
  | _, _, .bl b => .bl b
  | _, _, .int i => .int i
  | _, _, .str s => .str s
  | _, _, .tup f r => .tup (f.monoD rfl le) (RelDs.monoD le r)
  | _, _, .tupK f r => .tupK f (RelDs.monoD le r)
  | _, _, .lst h n r => .lst (le.keep _ _ h rfl n).1 (le.keep _ _ h rfl n).2 (RelDs.monoD le r)
  | _, _, .scr h r => .scr (h.imp (fun f => f.monoD rfl le) fun z => z) (RelDs.monoD le r)
  | _, _, .ref hn h => .ref (Nat.lt_of_lt_of_le hn le.len) fun a e => h a (le.idx _ a e hn)
theorem RelDs.monoD {K : PySem.W.Frag} {H H' : Hp} {loc loc' : Loc} (le : LeD loc H loc' H') : ∀ {ds : List D} {vs : List V}, RelDs K H loc ds vs → RelDs K H' loc' ds vs
  | _, _, .nil => .nil
  | _, _, .cons r t => .cons (RelD.monoD le r) (RelDs.monoD le t)
end
theorem RelD.mono {K : PySem.W.Frag} {H H' : Hp} {loc loc' : Loc} (le : Le loc H loc' H') {d : D} {v : V} (r : RelD K H loc d v) : RelD K H' loc' d v := r.monoD le.d
theorem RelDs.mono {K : PySem.W.Frag} {H H' : Hp} {loc loc' : Loc} (le : Le loc H loc' H') {d : List D} {v : List V} (r : RelDs K H loc d v) : RelDs K H' loc' d v := r.monoD le.d
section
variable {K : PySem.W.Frag} {H H' : Hp} {loc loc' : Loc}
theorem RelDs.length : ∀ {ds : List D} {vs : List V}, RelDs K H loc ds vs → ds.length = vs.length
  | _, _, .nil => rfl
  | _, _, .cons _ t => by rw [List.length_cons, List.length_cons, RelDs.length t]
theorem RelDs.get : ∀ {ds : List D} {vs : List V} {i : Nat} {d : D}, RelDs K H loc ds vs → ds[i]? = some d → ∃ v, vs[i]? = some v ∧ RelD K H loc d v
  | _, _, _, _, .nil, e => by simp at e
  | _, _, 0, _, .cons r _, e => by simp at e; subst e; exact ⟨_, rfl, r⟩
  | _, _, i + 1, d, .cons _ t, e => by
    obtain ⟨u, h1, h2⟩ := RelDs.get (i := i) (d := d) t (by simpa using e)
    exact ⟨u, by simpa using h1, h2⟩
theorem RelDs.append : ∀ {xs ys : List D} {us ws : List V}, RelDs K H loc xs us → RelDs K H loc ys ws → RelDs K H loc (xs ++ ys) (us ++ ws)
  | _, _, _, _, .nil, s => s
  | _, _, _, _, .cons r t, s => .cons r (RelDs.append t s)
theorem RelDs.take : ∀ {xs : List D} {us : List V} (n : Nat), RelDs K H loc xs us → RelDs K H loc (xs.take n) (us.take n)
  | _, _, 0, _ => .nil
  | _, _, _ + 1, .nil => .nil
  | _, _, n + 1, .cons r t => .cons r (RelDs.take n t)
theorem RelDs.drop : ∀ {xs : List D} {us : List V} (n : Nat), RelDs K H loc xs us → RelDs K H loc (xs.drop n) (us.drop n)
  | _, _, 0, r => r
  | _, _, _ + 1, .nil => .nil
  | _, _, n + 1, .cons _ t => RelDs.drop n t
theorem RelDs.reverse {xs : List D} {us : List V} (h : RelDs K H loc xs us) : RelDs K H loc xs.reverse us.reverse := by
  induction xs generalizing us with
  | nil => cases h; exact .nil
  | cons x xs ih =>
    cases h with
    | cons r t => rw [List.reverse_cons, List.reverse_cons]; exact RelDs.append (ih t) (.cons r .nil)
theorem RelDs.set {x : D} {u : V} (r : RelD K H loc x u) : ∀ {xs : List D} {us : List V} (i : Nat), RelDs K H loc xs us → RelDs K H loc (xs.set i x) (us.set i u)
  | _, _, _, .nil => .nil
  | _, _, 0, .cons _ t => .cons r t
  | _, _, i + 1, .cons q t => .cons q (RelDs.set r i t)
theorem RelDs.dropLast {xs : List D} {us : List V} (h : RelDs K H loc xs us) : RelDs K H loc xs.dropLast us.dropLast := by
  rw [List.dropLast_eq_take, List.dropLast_eq_take, ← h.length]
  exact h.take _
theorem RelDs.rep {xs : List D} {us : List V} (h : RelDs K H loc xs us) : ∀ k : Nat, RelDs K H loc (List.replicate k xs).flatten (List.replicate k us).flatten
  | 0 => .nil
  | k + 1 => by
    rw [List.replicate_succ, List.replicate_succ, List.flatten_cons, List.flatten_cons]
    exact RelDs.append h (RelDs.rep h k)
theorem RelDs.cut {xs : List D} {us : List V} (h : RelDs K H loc xs us) (lo hi : Option Int) : RelDs K H loc (Pf.cut xs lo hi) (cutV us lo hi) := by
  unfold Pf.cut cutV
  rw [← h.length]
  exact (h.drop _).take _
theorem RelDs.atI {xs : List D} {us : List V} {i : Int} {d : D} (h : RelDs K H loc xs us) (e : L2.atI xs i = some d) : ∃ v, L2.atI us i = some v ∧ RelD K H loc d v := by
  unfold L2.atI at e ⊢
  rw [← h.length]
  cases q : ixN xs.length i with
  | none => rw [q] at e; cases e
  | some j =>
    rw [q] at e
    exact h.get e
end

/-- a key -/
inductive KeyR : D → Key → Prop
  | int (i : Int) : KeyR (.int i) (.inl i)
  | str (s : List Nat) : KeyR (.str s) (.inr ⟨s.toArray⟩)
inductive RelKV (K : PySem.W.Frag) (H : Hp) (loc : Loc) : List (D × D) → List (Key × V) → Prop
  | nil : RelKV K H loc [] []
  | cons {k d : D} {q : Key} {v : V} {ds : List (D × D)} {vs : List (Key × V)} : KeyR k q → RelD K H loc d v → RelKV K H loc ds vs → RelKV K H loc ((k, d) :: ds) ((q, v) :: vs)
theorem RelKV.monoD {K : PySem.W.Frag} {H H' : Hp} {loc loc' : Loc} (le : LeD loc H loc' H') {ds : List (D × D)} {vs : List (Key × V)} (h : RelKV K H loc ds vs) : RelKV K H' loc' ds vs := by
  induction h with
  | nil => exact .nil
  | cons k r _ ih => exact .cons k (r.monoD le) ih
theorem RelKV.mono {K : PySem.W.Frag} {H H' : Hp} {loc loc' : Loc} (le : Le loc H loc' H') {ds : List (D × D)} {vs : List (Key × V)} (h : RelKV K H loc ds vs) : RelKV K H' loc' ds vs := h.monoD le.d
/-- a cell -/
inductive CellR (K : PySem.W.Frag) (H : Hp) (loc : Loc) : Ob → Option Addr → Prop
  | dead : CellR K H loc .dead none
  | lst {l : List D} {a : Addr} {xs : List V} : H a = some (.lst xs) → RelDs K H loc l xs → CellR K H loc (.lst l) (some a)
  | dic {l : List (D × D)} {a : Addr} {xs : List (Key × V)} : H a = some (.dK xs) → RelKV K H loc l xs → CellR K H loc (.dic l) (some a)
structure StoreR (K : PySem.W.Frag) (H : Hp) (loc : Loc) (S : Store) : Prop where
  len : loc.c.length = S.length
  cell : ∀ (n : Nat) (o : Ob), S[n]? = some o → ∃ c : Option Addr, loc.c[n]? = some c ∧ CellR K H loc o c
  inj : ∀ (n m : Nat) (a : Addr), loc.c[n]? = some (some a) → loc.c[m]? = some (some a) → n = m
  dis : ∀ a, some a ∈ loc.c → a ∉ loc.h
  ht : ∀ a ∈ loc.h, ∃ o, H a = some o
  wf : ∀ (n : Nat) (o : Ob), S[n]? = some o → obB n o = true
def EnvR (K : PySem.W.Frag) (H : Hp) (loc : Loc) (ρ : Ev) (σ : L2.St) : Prop :=
  ρ.length = σ.length ∧ ∀ (i : Nat) (d : D), ρ[i]? = some (some d) → ∃ v, σ[i]? = some (some v) ∧ RelD K H loc d v
theorem EnvR.mono {K : PySem.W.Frag} {H H' : Hp} {loc loc' : Loc} {ρ : Ev} {σ : L2.St} (e : EnvR K H loc ρ σ) (le : Le loc H loc' H') : EnvR K H' loc' ρ σ :=
  ⟨e.1, fun i d h => let ⟨v, h1, h2⟩ := e.2 i d h; ⟨v, h1, h2.mono le⟩⟩

section
variable {K : PySem.W.Frag} {H H' : Hp} {loc loc' : Loc} {S : Store}
theorem wf_push {ob : Ob} (h : ∀ (n : Nat) (o : Ob), S[n]? = some o → obB n o = true) (hw : obB S.length ob = true) : ∀ (n : Nat) (o : Ob), (S ++ [ob])[n]? = some o → obB n o = true := fun n o e => by
  by_cases hn : n < S.length
  · rw [List.getElem?_append_left hn] at e
    exact h n o e
  · have hn' : n = S.length := by
      have := (List.getElem?_eq_some_iff.mp e).1
      simp at this
      omega
    subst hn'
    rw [List.getElem?_append_right (Nat.le_refl _)] at e
    simp at e
    subst e
    exact hw
theorem wf_set {ob : Ob} {m : Nat} (h : ∀ (n : Nat) (o : Ob), S[n]? = some o → obB n o = true) (hw : obB m ob = true) : ∀ (n : Nat) (o : Ob), (S.set m ob)[n]? = some o → obB n o = true := fun n o e => by
  by_cases hm : m = n
  · subst hm
    have hl : m < (S.set m ob).length := (List.getElem?_eq_some_iff.mp e).1
    rw [List.length_set] at hl
    rw [List.getElem?_set_self hl] at e
    cases e
    exact hw
  · rw [List.getElem?_set_ne hm] at e
    exact h n o e
mutual
theorem RelD.lower : ∀ {d : D} {v : V}, RelD K H loc d v → Pf.below loc.c.length d = true
  | _, _, .non => rfl
  | _, _, .bl _ => rfl
  | _, _, .int _ => rfl
  | _, _, .str _ => rfl
  | _, _, .tup _ r => RelDs.lowers r
  | _, _, .tupK _ r => RelDs.lowers r
  | _, _, .lst _ _ r => RelDs.lowers r
  | _, _, .scr _ r => RelDs.lowers r
  | _, _, .ref h _ => decide_eq_true h
theorem RelDs.lowers : ∀ {d : List D} {v : List V}, RelDs K H loc d v → Pf.belows loc.c.length d = true
  | _, _, .nil => rfl
  | d :: ds, _, .cons r t => by
    show (Pf.below _ d && Pf.belows _ ds) = true
    rw [RelD.lower r, RelDs.lowers t] <;> rfl
end
theorem belows_append (b : Nat) : ∀ (xs ys : List D), Pf.belows b (xs ++ ys) = (Pf.belows b xs && Pf.belows b ys)
  | [], ys => by simp [Pf.belows]
  | x :: xs, ys => by
    show (Pf.below b x && Pf.belows b (xs ++ ys)) = (Pf.below b x && Pf.belows b xs && Pf.belows b ys)
    rw [belows_append b xs ys, Bool.and_assoc]
theorem belows_mem {b : Nat} : ∀ {xs : List D}, Pf.belows b xs = true ↔ ∀ x ∈ xs, Pf.below b x = true
  | [] => by simp [Pf.belows]
  | x :: xs => by
    show (Pf.below b x && Pf.belows b xs) = true ↔ _
    rw [Bool.and_eq_true, belows_mem (xs := xs)]
    simp
/-- a live cell is tracked -/
theorem StoreR.liveC (s : StoreR K H loc S) {a : Addr} (h : some a ∈ loc.c) : ∃ o, H a = some o := by
  obtain ⟨n, hn⟩ := List.getElem?_of_mem h
  have hl : n < S.length := by rw [← s.len]; exact (List.getElem?_eq_some_iff.mp hn).1
  obtain ⟨c, h1, h2⟩ := s.cell n S[n] (by simp [hl])
  rw [hn] at h1
  cases h1
  generalize S[n] = o at h2
  cases h2 with
  | lst h _ => exact ⟨_, h⟩
  | dic h _ => exact ⟨_, h⟩
theorem StoreR.live (s : StoreR K H loc S) {a : Addr} (h : Live loc a) : ∃ o, H a = some o := h.elim s.liveC (s.ht a)
theorem StoreR.fresh (s : StoreR K H loc S) {a : Addr} (h : H a = none) : ¬ Live loc a := fun m => by
  obtain ⟨o, e⟩ := s.live m
  rw [h] at e; cases e
/-- a new object that is no cell -/
theorem Le.laid {p : Addr} {o : HO} (hp : H p = none) (n : ¬ Live loc p) : Le loc H loc (upd H p o) :=
  ⟨fun a u h hn => ⟨by rw [upd_ne (ne_of_none h hp)]; exact h, hn⟩, fun _ _ h _ => h, Nat.le_refl _, rfl, fun a ha => upd_ne fun e => n (.inr (by rw [← e]; exact ha))⟩
theorem CellR.monoD {o : Ob} {c : Option Addr} (h : CellR K H loc o c) (le : LeD loc H loc' H') (k : ∀ a u, c = some a → H a = some u → H' a = some u) : CellR K H' loc' o c := by
  cases h with
  | dead => exact .dead
  | lst h r => exact .lst (k _ _ rfl h) (r.monoD le)
  | dic h r => exact .dic (k _ _ rfl h) (r.monoD le)
theorem CellR.mono {o : Ob} {c : Option Addr} (h : CellR K H loc o c) (le : Le loc H loc' H') (k : ∀ a u, c = some a → H a = some u → H' a = some u) : CellR K H' loc' o c := h.monoD le.d k
/-- the cells as they are, another heap or other hidden things -/
theorem StoreR.monoD (s : StoreR K H loc S) (hc : loc'.c = loc.c) (le : LeD loc H loc' H') (k : ∀ a u, some a ∈ loc.c → H a = some u → H' a = some u) (dis : ∀ a, some a ∈ loc.c → a ∉ loc'.h) (ht : ∀ a ∈ loc'.h, ∃ o, H' a = some o) : StoreR K H' loc' S :=
  ⟨by rw [hc]; exact s.len, fun n o e => let ⟨c, h1, h2⟩ := s.cell n o e; ⟨c, by rw [hc]; exact h1, h2.monoD le fun a u hc => k a u (hc ▸ List.mem_of_getElem? h1)⟩, by rw [hc]; exact s.inj, by rw [hc]; exact dis, ht, s.wf⟩
theorem StoreR.mono (s : StoreR K H loc S) (le : Le loc H loc H') (k : ∀ a u, some a ∈ loc.c → H a = some u → H' a = some u) : StoreR K H' loc S :=
  s.monoD rfl le.d k s.dis fun a ha => by rw [le.hk a ha]; exact s.ht a ha
theorem StoreR.laid {p : Addr} {o : HO} (s : StoreR K H loc S) (hp : H p = none) : StoreR K (upd H p o) loc S :=
  s.mono (Le.laid hp (s.fresh hp)) fun a u _ h => by rw [upd_ne (ne_of_none h hp)]; exact h
/-- a new cell -/
theorem not_live_push {p a : Addr} (h : ¬ Live loc a) (ne : a ≠ p) : ¬ Live (loc.push p) a := by
  rintro (m | m)
  · rcases List.mem_append.mp m with m | m
    · exact h (.inl m)
    · simp only [List.mem_singleton, Option.some.injEq] at m
      exact ne m
  · exact h (.inr m)
theorem LeD.adopt {p : Addr} {o : HO} (hp : ∀ u, H p = some u → dat u = false) : LeD loc H (loc.push p) (upd H p o) := by
  refine ⟨fun a u h k hn => ?_, fun n a h hn => ?_, by simp [Loc.push]⟩
  · have ne : a ≠ p := fun e => by subst e; rw [hp u h] at k; cases k
    exact ⟨by rw [upd_ne ne]; exact h, not_live_push hn ne⟩
  · have h' : (loc.c ++ [some p])[n]? = some (some a) := h
    rw [List.getElem?_append_left hn] at h'
    exact h'
theorem Le.alloc {p : Addr} {o : HO} (s : StoreR K H loc S) (hp : H p = none) : Le loc H (loc.push p) (upd H p o) := by
  refine ⟨fun a u h hn => ⟨by rw [upd_ne (ne_of_none h hp)]; exact h, not_live_push hn (ne_of_none h hp)⟩, fun n a h hn => ?_, by simp [Loc.push], rfl, fun a ha => upd_ne fun e => s.fresh hp (.inr (by rw [← e]; exact ha))⟩
  have h' : (loc.c ++ [some p])[n]? = some (some a) := h
  rw [List.getElem?_append_left hn] at h'
  exact h'
theorem StoreR.adopt {p : Addr} {o : HO} {ob : Ob} (s : StoreR K H loc S) (le : LeD loc H (loc.push p) (upd H p o)) (hpn : ¬ Live loc p) (c : CellR K (upd H p o) (loc.push p) ob (some p)) (hw : obB S.length ob = true) : StoreR K (upd H p o) (loc.push p) (S ++ [ob]) := by
  refine ⟨by simp [Loc.push, s.len], fun n u e => ?_, fun n m a h1 h2 => ?_, fun a ha hh => ?_, fun a ha => ?_, wf_push s.wf hw⟩
  · by_cases hn : n < S.length
    · rw [List.getElem?_append_left hn] at e
      obtain ⟨c', h1, h2⟩ := s.cell n u e
      refine ⟨c', ?_, h2.monoD le fun a w hc h => ?_⟩
      · show (loc.c ++ [some p])[n]? = _
        rw [List.getElem?_append_left (by rw [s.len]; exact hn)]; exact h1
      · rw [upd_ne]
        · exact h
        · intro q
          subst q
          subst hc
          exact hpn (.inl (List.mem_of_getElem? h1))
    · have hn' : n = S.length := by
        have := (List.getElem?_eq_some_iff.mp e).1
        simp at this
        omega
      subst hn'
      rw [List.getElem?_append_right (Nat.le_refl _)] at e
      simp at e
      subst e
      refine ⟨some p, ?_, c⟩
      show (loc.c ++ [some p])[S.length]? = _
      rw [List.getElem?_append_right (by rw [s.len]; exact Nat.le_refl _), s.len]
      simp
  · have key : ∀ n, (loc.c ++ [some p])[n]? = some (some a) → (n < loc.c.length ∧ loc.c[n]? = some (some a) ∧ a ≠ p) ∨ (n = loc.c.length ∧ a = p) := fun n h => by
      by_cases hn : n < loc.c.length
      · rw [List.getElem?_append_left hn] at h
        exact .inl ⟨hn, h, fun e => hpn (.inl (e ▸ List.mem_of_getElem? h))⟩
      · have h3 := (List.getElem?_eq_some_iff.mp h).1
        simp at h3
        have : n = loc.c.length := by omega
        subst this
        rw [List.getElem?_append_right (Nat.le_refl _)] at h
        simp at h
        exact .inr ⟨rfl, h.symm⟩
    rcases key n h1 with ⟨a1, a2, a3⟩ | ⟨a1, a2⟩ <;> rcases key m h2 with ⟨b1, b2, b3⟩ | ⟨b1, b2⟩
    · exact s.inj n m a a2 b2
    · exact absurd b2 a3
    · exact absurd a2 b3
    · omega
  · rcases List.mem_append.mp (show some a ∈ loc.c ++ [some p] from ha) with m | m
    · exact s.dis a m hh
    · simp only [List.mem_singleton, Option.some.injEq] at m
      subst m
      exact hpn (.inr hh)
  · by_cases e : a = p
    · subst e; exact ⟨_, upd_same⟩
    · rw [upd_ne e]; exact s.ht a ha
theorem StoreR.alloc {p : Addr} {o : HO} {ob : Ob} (s : StoreR K H loc S) (hp : H p = none) (c : CellR K (upd H p o) (loc.push p) ob (some p)) (hw : obB S.length ob = true) : StoreR K (upd H p o) (loc.push p) (S ++ [ob]) :=
  s.adopt (Le.alloc s hp).d (s.fresh hp) c hw
theorem RelD.new {p : Addr} (hl : loc.c.length = S.length) : RelD K H (loc.push p) (.ref S.length) (.ref p) := by
  refine .ref (by simp [Loc.push, hl]) fun a h => ?_
  have h' : (loc.c ++ [some p])[S.length]? = some (some a) := h
  rw [← hl, List.getElem?_append_right (Nat.le_refl _)] at h'
  simp at h'
  rw [h']
/-- a live cell is written -/
theorem Le.write {p : Addr} {o : HO} (s : StoreR K H loc S) (h : some p ∈ loc.c) : Le loc H loc (upd H p o) :=
  ⟨fun a u e n => ⟨by rw [upd_ne (fun q => n (.inl (by rw [q]; exact h)))]; exact e, n⟩, fun _ _ h _ => h, Nat.le_refl _, rfl, fun a ha => upd_ne fun e => s.dis p h (by rw [← e]; exact ha)⟩
theorem StoreR.write {p : Addr} {o : HO} {ob : Ob} {n : Nat} (s : StoreR K H loc S) (hn : loc.c[n]? = some (some p)) (c : CellR K (upd H p o) loc ob (some p)) (hw : obB n ob = true) : StoreR K (upd H p o) loc (S.set n ob) := by
  have le : Le loc H loc (upd H p o) := Le.write s (List.mem_of_getElem? hn)
  have hl : n < S.length := by rw [← s.len]; exact (List.getElem?_eq_some_iff.mp hn).1
  refine ⟨by simp [s.len], fun m u e => ?_, s.inj, s.dis, fun a ha => by rw [le.hk a ha]; exact s.ht a ha, wf_set s.wf hw⟩
  by_cases hm : n = m
  · subst hm
    rw [List.getElem?_set_self hl] at e
    cases e
    exact ⟨_, hn, c⟩
  · rw [List.getElem?_set_ne hm] at e
    obtain ⟨c', h1, h2⟩ := s.cell m u e
    refine ⟨c', h1, h2.mono le fun a w hc h => ?_⟩
    rw [upd_ne ?_]
    · exact h
    · intro q
      subst q
      subst hc
      exact hm (s.inj n m _ hn h1)
theorem StoreR.lst (s : StoreR K H loc S) {n : Nat} {l : List D} (h : S[n]? = some (.lst l)) : ∃ a xs, loc.c[n]? = some (some a) ∧ H a = some (.lst xs) ∧ RelDs K H loc l xs := by
  obtain ⟨c, h1, h2⟩ := s.cell n _ h
  cases h2 with
  | lst h r => exact ⟨_, _, h1, h, r⟩
theorem StoreR.dic (s : StoreR K H loc S) {n : Nat} {l : List (D × D)} (h : S[n]? = some (.dic l)) : ∃ a xs, loc.c[n]? = some (some a) ∧ H a = some (.dK xs) ∧ RelKV K H loc l xs := by
  obtain ⟨c, h1, h2⟩ := s.cell n _ h
  cases h2 with
  | dic h r => exact ⟨_, _, h1, h, r⟩
/-! ### a thing that is being made, hidden -/
/-- hiding a new object -/
theorem LeD.hide {p : Addr} {o : HO} (s : StoreR K H loc S) (hp : H p = none) : LeD loc H (loc.hide p) (upd H p o) := by
  refine ⟨fun a u h k hn => ⟨by rw [upd_ne (ne_of_none h hp)]; exact h, ?_⟩, fun _ _ h _ => h, Nat.le_refl _⟩
  rintro (m | m)
  · exact hn (.inl m)
  · rcases List.mem_cons.mp m with e | m
    · exact ne_of_none h hp e
    · exact hn (.inr m)
theorem StoreR.hide {p : Addr} {o : HO} (s : StoreR K H loc S) (hp : H p = none) : StoreR K (upd H p o) (loc.hide p) S := by
  refine s.monoD rfl (LeD.hide s hp) (fun a u _ h => by rw [upd_ne (ne_of_none h hp)]; exact h) (fun a ha hh => ?_) fun a ha => ?_
  · rcases List.mem_cons.mp hh with e | m
    · subst e; exact s.fresh hp (.inl ha)
    · exact s.dis a ha m
  · rcases List.mem_cons.mp ha with e | m
    · subst e; exact ⟨_, upd_same⟩
    · obtain ⟨u, hu⟩ := s.ht a m
      exact ⟨u, by rw [upd_ne (ne_of_none hu hp)]; exact hu⟩
/-- a hidden thing is written -/
theorem LeD.hidden {p : Addr} {o : HO} (hp : p ∈ loc.h) : LeD loc H loc (upd H p o) :=
  ⟨fun a u h _ hn => ⟨by rw [upd_ne fun e => hn (.inr (by rw [e]; exact hp))]; exact h, hn⟩, fun _ _ h _ => h, Nat.le_refl _⟩
theorem StoreR.hidden {p : Addr} {o : HO} (s : StoreR K H loc S) (hp : p ∈ loc.h) : StoreR K (upd H p o) loc S := by
  refine s.monoD rfl (LeD.hidden hp) (fun a u ha h => by rw [upd_ne fun e => s.dis a ha (by rw [e]; exact hp)]; exact h) s.dis fun a ha => ?_
  by_cases e : a = p
  · subst e; exact ⟨_, upd_same⟩
  · rw [upd_ne e]; exact s.ht a ha
/-- it stands open again -/
theorem LeD.bare {p : Addr} {c : List (Option Addr)} {h : List Addr} : LeD ⟨c, p :: h⟩ H ⟨c, h⟩ H :=
  ⟨fun a u e _ hn => ⟨e, fun m => hn (m.imp id (List.mem_cons_of_mem _))⟩, fun _ _ h _ => h, Nat.le_refl _⟩
theorem StoreR.bare {p : Addr} {c : List (Option Addr)} {h : List Addr} (s : StoreR K H ⟨c, p :: h⟩ S) : StoreR K H ⟨c, h⟩ S :=
  s.monoD rfl LeD.bare (fun _ _ _ e => e) (fun a ha hh => s.dis a ha (List.mem_cons_of_mem _ hh)) fun a ha => s.ht a (List.mem_cons_of_mem _ ha)
/-- it becomes a cell -/
theorem LeD.expose {p : Addr} {c : List (Option Addr)} {h : List Addr} : LeD ⟨c, p :: h⟩ H ⟨c ++ [some p], h⟩ H := by
  refine ⟨fun a u e _ hn => ⟨e, fun m => ?_⟩, fun n a e hn => ?_, by simp⟩
  · rcases m with m | m
    · rcases List.mem_append.mp m with m | m
      · exact hn (.inl m)
      · simp only [List.mem_singleton, Option.some.injEq] at m
        exact hn (.inr (by rw [m]; exact List.mem_cons_self))
    · exact hn (.inr (List.mem_cons_of_mem _ m))
  · have e' : (c ++ [some p])[n]? = some (some a) := e
    rw [List.getElem?_append_left hn] at e'
    exact e'
theorem StoreR.expose {p : Addr} {c : List (Option Addr)} {h : List Addr} {ob : Ob} (s : StoreR K H ⟨c, p :: h⟩ S) (hp : p ∉ h) (co : CellR K H ⟨c ++ [some p], h⟩ ob (some p)) (hw : obB S.length ob = true) : StoreR K H ⟨c ++ [some p], h⟩ (S ++ [ob]) := by
  have hpc : some p ∉ c := fun m => s.dis p m List.mem_cons_self
  have len : c.length = S.length := s.len
  refine ⟨by simp [len], fun n u e => ?_, fun n m a h1 h2 => ?_, fun a ha hh => ?_, fun a ha => s.ht a (List.mem_cons_of_mem _ ha), wf_push s.wf hw⟩
  · by_cases hn : n < S.length
    · rw [List.getElem?_append_left hn] at e
      obtain ⟨c', h1, h2⟩ := s.cell n u e
      refine ⟨c', ?_, h2.monoD LeD.expose fun _ _ _ h => h⟩
      show (c ++ [some p])[n]? = _
      rw [List.getElem?_append_left (by rw [len]; exact hn)]; exact h1
    · have hn' : n = S.length := by
        have := (List.getElem?_eq_some_iff.mp e).1
        simp at this
        omega
      subst hn'
      rw [List.getElem?_append_right (Nat.le_refl _)] at e
      simp at e
      subst e
      refine ⟨some p, ?_, co⟩
      show (c ++ [some p])[S.length]? = _
      rw [List.getElem?_append_right (by rw [len]; exact Nat.le_refl _), len]
      simp
  · have key : ∀ n, (c ++ [some p])[n]? = some (some a) → (n < c.length ∧ c[n]? = some (some a) ∧ a ≠ p) ∨ (n = c.length ∧ a = p) := fun n h => by
      by_cases hn : n < c.length
      · rw [List.getElem?_append_left hn] at h
        exact .inl ⟨hn, h, fun e => hpc (e ▸ List.mem_of_getElem? h)⟩
      · have h3 := (List.getElem?_eq_some_iff.mp h).1
        simp at h3
        have : n = c.length := by omega
        subst this
        rw [List.getElem?_append_right (Nat.le_refl _)] at h
        simp at h
        exact .inr ⟨rfl, h.symm⟩
    rcases key n h1 with ⟨a1, a2, a3⟩ | ⟨a1, a2⟩ <;> rcases key m h2 with ⟨b1, b2, b3⟩ | ⟨b1, b2⟩
    · exact s.inj n m a a2 b2
    · exact absurd b2 a3
    · exact absurd a2 b3
    · omega
  · rcases List.mem_append.mp (show some a ∈ c ++ [some p] from ha) with m | m
    · exact s.dis a m (List.mem_cons_of_mem _ hh)
    · simp only [List.mem_singleton, Option.some.injEq] at m
      subst m
      exact hp hh
/-- a new cell, seen from a start at which it was not there -/
theorem Le.exposed {p : Addr} {c : List (Option Addr)} {h : List Addr} (le : Le loc H ⟨c, h⟩ H') (hp : H p = none) : Le loc H ⟨c ++ [some p], h⟩ H' := by
  refine ⟨fun a o e hn => ⟨(le.keep a o e hn).1, fun m => ?_⟩, fun n a e hn => ?_, Nat.le_trans le.len (by simp), le.hid, le.hk⟩
  · rcases m with m | m
    · rcases List.mem_append.mp m with m | m
      · exact (le.keep a o e hn).2 (.inl m)
      · simp only [List.mem_singleton, Option.some.injEq] at m
        exact ne_of_none e hp m
    · exact (le.keep a o e hn).2 (.inr m)
  · have e' : (c ++ [some p])[n]? = some (some a) := e
    rw [List.getElem?_append_left (Nat.lt_of_lt_of_le hn le.len)] at e'
    exact le.idx n a e' hn
/-- a step among hidden things, seen from without -/
theorem Le.bare {p : Addr} {c c' : List (Option Addr)} {h : List Addr} (le : Le ⟨c, p :: h⟩ H ⟨c', p :: h⟩ H') (s' : StoreR K H' ⟨c', p :: h⟩ S) (hp : p ∉ h) : Le ⟨c, h⟩ H ⟨c', h⟩ H' := by
  refine ⟨fun a o e hn => ?_, le.idx, le.len, rfl, fun a ha => le.hk a (List.mem_cons_of_mem _ ha)⟩
  by_cases q : a = p
  · subst q
    exact ⟨by rw [le.hk a List.mem_cons_self]; exact e, fun m => m.elim (fun m => s'.dis a m List.mem_cons_self) fun m => hp m⟩
  · have hn' : ¬ Live ⟨c, p :: h⟩ a := fun m => m.elim (fun m => hn (.inl m)) fun m => (List.mem_cons.mp m).elim q fun m => hn (.inr m)
    obtain ⟨h1, h2⟩ := le.keep a o e hn'
    exact ⟨h1, fun m => h2 (m.imp id (List.mem_cons_of_mem _))⟩
/-- a write to what was not there at the start -/
theorem Le.wrote {p : Addr} {o : HO} (le : Le loc H loc' H') (hp : H p = none) (hh : p ∉ loc.h) : Le loc H loc' (upd H' p o) :=
  ⟨fun a u e hn => ⟨by rw [upd_ne (ne_of_none e hp)]; exact (le.keep a u e hn).1, (le.keep a u e hn).2⟩, le.idx, le.len, le.hid, fun a ha => by rw [upd_ne fun e => hh (by rw [← e]; exact ha)]; exact le.hk a ha⟩
end

/-! ### what is wanted of an outcome -/
/-- the classes of exceptions: where they stand, the names of their fields -/
abbrev Clss := Nat → Option (Addr × List Str)
/-- an exception -/
def XRel (K : PySem.W.Frag) (C : Clss) (loc : Loc) (H : Hp) (c : Nat) (fs : List D) (cls : Value) (d : Option Addr) : Prop :=
  ∃ a names dd vs, C c = some (a, names) ∧ cls = .ref a ∧ d = some dd ∧ H dd = some (.xd (names.zip vs)) ∧ names.length = vs.length ∧ ¬ Live loc dd ∧ RelDs K H loc fs vs
/-- the exception's wish -/
abbrev XW := Value → Option Addr → Hp → Prop
def Out {α β : Type} (K : PySem.W.Frag) (C : Clss) (W : XW) (rel : Loc → Hp → α → β → Prop) (loc : Loc) (H : Hp) (r : R α) (Q : β → Hp → Prop) : Prop := match r with
  | .ok a S' => ∀ loc' H' b, Le loc H loc' H' → StoreR K H' loc' S' → rel loc' H' a b → Q b H'
  | .exc c fs S' => ∀ loc' H' cls d, Le loc H loc' H' → StoreR K H' loc' S' → XRel K C loc' H' c fs cls d → W cls d H'
  | .no => False
section
variable {α β γ δ : Type} {K : PySem.W.Frag} {C : Clss} {W : XW} {loc : Loc} {H : Hp}
theorem Out.mono {rel : Loc → Hp → α → β → Prop} {r : R α} {Q Q' : β → Hp → Prop} (h : Out K C W rel loc H r Q) (f : ∀ loc' H' b S' a, r = .ok a S' → Le loc H loc' H' → StoreR K H' loc' S' → rel loc' H' a b → Q b H' → Q' b H') : Out K C W rel loc H r Q' := by
  cases r with
  | ok a S' => exact fun loc' H' b le s r => f loc' H' b S' a rfl le s r (h loc' H' b le s r)
  | exc c fs S' => exact h
  | no => exact h
/-- from a later state -/
theorem Out.later {rel : Loc → Hp → α → β → Prop} {r : R α} {Q : β → Hp → Prop} {loc1 : Loc} {H1 : Hp} (h : Out K C W rel loc H r Q) (le : Le loc H loc1 H1) : Out K C W rel loc1 H1 r Q := by
  cases r with
  | ok a S' => exact fun loc' H' b le' s r => h loc' H' b (le.trans le') s r
  | exc c fs S' => exact fun loc' H' cls d le' s x => h loc' H' cls d (le.trans le') s x
  | no => exact h
/-- a bind: the first part's outcome wants the second's -/
theorem Out.bind {m : M α} {f : α → M γ} {rel : Loc → Hp → α → β → Prop} {rel' : Loc → Hp → γ → δ → Prop} {Q : δ → Hp → Prop} {Q' : β → Hp → Prop} {S : Store} (h : Out K C W rel' loc H ((m >>= f) S) Q)
    (k : ∀ a S' loc' H' b, m S = .ok a S' → Le loc H loc' H' → StoreR K H' loc' S' → rel loc' H' a b → Out K C W rel' loc' H' (f a S') Q → Q' b H') : Out K C W rel loc H (m S) Q' := by
  have e : (m >>= f) S = M.bind m f S := rfl
  rw [e] at h
  unfold M.bind at h
  cases q : m S with
  | ok a S' =>
    rw [q] at h
    exact fun loc' H' b le s r => k a S' loc' H' b q le s r (Out.later h le)
  | exc c fs S' => rw [q] at h; exact h
  | no => rw [q] at h; exact h
end
end Pf

set_option linter.all false
set_option Elab.async false
set_option maxRecDepth 100000
set_option autoImplicit false
/-! PfVal: operations by values -/
namespace Pf
open PySem PySem.Spec PyProof.Rows L2

def OutV (K : PySem.W.Frag) (loc : Loc) (H : Hp) (r : R D) (Q : VK) : Prop := match r with
  | .ok a S' => ∀ loc' H' b, Le loc H loc' H' → StoreR K H' loc' S' → RelD K H' loc' a b → Q b H'
  | _ => False
def rV1 (K : PySem.W.Frag) (F : D → M D) : V → Hp → VK → Prop := fun x H Q => ∃ loc S x', StoreR K H loc S ∧ RelD K H loc x' x ∧ OutV K loc H (F x' S) Q
def rV2 (K : PySem.W.Frag) (F : D → D → M D) : R2 := fun x y H Q => ∃ loc S x' y', StoreR K H loc S ∧ RelD K H loc x' x ∧ RelD K H loc y' y ∧ OutV K loc H (F x' y' S) Q
def rVn (K : PySem.W.Frag) (F : List D → M D) : List V → Hp → VK → Prop := fun xs H Q => ∃ loc S xs', StoreR K H loc S ∧ RelDs K H loc xs' xs ∧ OutV K loc H (F xs' S) Q
def rVm (K : PySem.W.Frag) (F : D → List D → M D) : V → List V → Hp → VK → Prop := fun x xs H Q => ∃ loc S x' xs', StoreR K H loc S ∧ RelD K H loc x' x ∧ RelDs K H loc xs' xs ∧ OutV K loc H (F x' xs' S) Q

section
variable {K : PySem.W.Frag} {H : Hp} {loc : Loc} {S : Store} {Q : VK}
theorem OutV.now {a : D} {v : V} (h : OutV K loc H (.ok a S) Q) (s : StoreR K H loc S) (r : RelD K H loc a v) : Q v H := h loc H v Le.refl s r
theorem OutV.later' {a : D} {v : V} {S1 : Store} {loc1 : Loc} {H1 : Hp} (h : OutV K loc H (.ok a S1) Q) (le : Le loc H loc1 H1) (s : StoreR K H1 loc1 S1) (r : RelD K H1 loc1 a v) : Q v H1 := h loc1 H1 v le s r
theorem OutV.newTup {l : List D} {xs : List V} (h : OutV K loc H (.ok (.tup l) S) Q) (s : StoreR K H loc S) (r : RelDs K H loc l xs) {p : Addr} (hp : H p = none) : Q (.ref p) (upd H p (.tup xs)) := by
  have hn := s.fresh hp
  have le : Le loc H loc (upd H p (.tup xs)) := Le.laid hp hn
  exact h loc _ _ le (s.laid hp) (.tup ⟨.inl upd_same, hn⟩ (r.mono le))
theorem OutV.newLst {l : List D} {xs : List V} (h : OutV K loc H (.ok (.lst l) S) Q) (s : StoreR K H loc S) (r : RelDs K H loc l xs) {p : Addr} (hp : H p = none) : Q (.ref p) (upd H p (.lst xs)) := by
  have hn := s.fresh hp
  have le : Le loc H loc (upd H p (.lst xs)) := Le.laid hp hn
  exact h loc _ _ le (s.laid hp) (.lst upd_same hn (r.mono le))
theorem OutV.newL {l : List D} {xs : List V} {m : Bool} (h : OutV K loc H (mkL m l S) Q) (s : StoreR K H loc S) (r : RelDs K H loc l xs) {p : Addr} (hp : H p = none) : Q (.ref p) (upd H p (.lst xs)) := by
  cases m with
  | false => exact OutV.newLst h s r hp
  | true =>
    have h' : OutV K loc H (.ok (.ref S.length) (S ++ [.lst l])) Q := h
    have le : Le loc H (loc.push p) (upd H p (.lst xs)) := Le.alloc s hp
    exact h' _ _ _ le (s.alloc hp (.lst upd_same (r.mono le)) (by rw [← s.len]; exact r.lowers)) (RelD.new s.len)
theorem RelD.tupAt {l : List D} {v : V} (r : RelD K H loc (.tup l) v) : ∃ a xs, v = .ref a ∧ SqT K H a xs ∧ RelDs K H loc l xs := by
  cases r with
  | tup f r => exact ⟨_, _, rfl, .inl f.1, r⟩
  | tupK k r => exact ⟨_, _, rfl, .inr k, r⟩
theorem getL_at {d : D} {v : V} {l : List D} (s : StoreR K H loc S) (e : getL S d = some l) (r : RelD K H loc d v) : ∃ a xs, v = .ref a ∧ H a = some (.lst xs) ∧ RelDs K H loc l xs := by
  cases d with
  | lst l' =>
    have e' : some l' = some l := e
    cases e'
    cases r with
    | lst h n r => exact ⟨_, _, rfl, h, r⟩
  | ref n =>
    have e' : (match S[n]? with | some (.lst l) => some l | _ => none) = some l := e
    cases q : S[n]? with
    | none => rw [q] at e'; cases e'
    | some ob =>
      rw [q] at e'
      cases ob with
      | lst l' =>
        cases e'
        obtain ⟨a, xs, h1, h2, h3⟩ := s.lst q
        cases r with
        | ref hn hr => exact ⟨a, xs, hr a h1, h2, h3⟩
      | _ => cases e'
  | _ => cases e
theorem getS_at {d : D} {v : V} {l : List D} (s : StoreR K H loc S) (e : getS S d = some l) (r : RelD K H loc d v) : ∃ a xs, v = .ref a ∧ (SqL K H a xs ∨ SqT K H a xs) ∧ RelDs K H loc l xs := by
  have viaL : getL S d = some l → ∃ a xs, v = .ref a ∧ (SqL K H a xs ∨ SqT K H a xs) ∧ RelDs K H loc l xs := fun e => by
    obtain ⟨a, xs, h1, h2, h3⟩ := getL_at s e r
    exact ⟨a, xs, h1, .inl (SqL.of h2), h3⟩
  cases r with
  | tup f r => cases e; exact ⟨_, _, rfl, .inr (.inl f.1), r⟩
  | tupK k r => cases e; exact ⟨_, _, rfl, .inr (.inr k), r⟩
  | scr k r =>
    cases e
    rcases k with f | f
    · exact ⟨_, _, rfl, .inl (.inl f.1), r⟩
    · exact ⟨_, _, rfl, .inl (f H), r⟩
  | lst h n r => exact viaL e
  | ref hn hr => exact viaL e
  | _ => cases e
end

theorem LINE_eq : LINE = sizeLine := by rw [sizeLine_eq]; decide
theorem B64_lt {i : Int} (h : i.natAbs < B64) : -(2 ^ 64) < i ∧ i < 2 ^ 64 := by
  have e : B64 = 2 ^ 63 := rfl
  omega
theorem mulOk_ok {i j : Int} (h : mulOk i j = true) : IntMulOk i j := by
  unfold mulOk at h
  rw [Bool.or_eq_true, Bool.or_eq_true, Bool.and_eq_true] at h
  simp only [decide_eq_true_eq] at h
  rcases h with h | h | ⟨h1, h2⟩
  · exact CMul.ok (.inl (B64_lt h))
  · exact CMul.ok (.inr (B64_lt h))
  · exact CMulW.ok (wide_mul (a := 400000) (b := 400000) (show i.natAbs < 2 ^ 400000 from h1) (show j.natAbs < 2 ^ 400000 from h2) (by decide) (by decide) (by decide))
theorem op_fdivA {X : Cx} : OpR X (binaryOp .FloorDiv) (rI (fun _ j => j ≠ 0 ∧ j.natAbs < 2 ^ 8999) fun i j => .int (i.fdiv j)) := opI fun i j _ _ _ _ _ hc q =>
  floordiv_int hc.1 q (.inl (PyProof.noPylong_of_log2 (Nat.lt_of_lt_of_le (PySem.Flt.log2_lt_of (by decide) hc.2) (by decide))))
theorem op_mulA {X : Cx} : OpR X (binaryOp .Mult) (rI (fun i j => mulOk i j = true) fun i j => .int (i * j)) := opI fun _ _ _ _ _ _ _ hc q => mul_int q (mulOk_ok hc)

section
variable {X : Cx}
theorem opF_add : OpR X (binaryOp .Add) (rV2 X.K (opF .add)) := by
  intro pins s σ H x y v u Q I rx ry h
  obtain ⟨loc, S, x', y', sr, r1, r2, o⟩ := h
  have lists : OutV X.K loc H (match getL S x', getL S y' with
      | some xs, some ys => if xs.length + ys.length ≤ LINE then .ok (.lst (xs ++ ys)) S else .no
      | _, _ => .no) Q → wpAny (model X.prog X.w) X.A (binaryOp .Add v u) (EP X pins σ Q) X.xe s := fun o => by
    cases e1 : getL S x' with
    | none => rw [e1] at o; exact o.elim
    | some l1 =>
      cases e2 : getL S y' with
      | none => rw [e1, e2] at o; exact o.elim
      | some l2 =>
        rw [e1, e2] at o
        obtain ⟨a, xs, rfl, ha, ra⟩ := getL_at sr e1 r1
        obtain ⟨b, ys, rfl, hb, rb⟩ := getL_at sr e2 r2
        by_cases hz : l1.length + l2.length ≤ LINE
        · simp only [hz, if_true] at o
          exact op_cat pins s σ H _ _ v u Q I rx ry ⟨a, b, xs, ys, rfl, rfl, ha, hb, by rw [← ra.length, ← rb.length, ← LINE_eq]; exact hz, fun p hp => o.newLst sr (ra.append rb) hp⟩
        · simp only [hz, if_false] at o; exact o.elim
  cases x' with
  | int i =>
    cases y' with
    | int j =>
      cases r1; cases r2
      exact op_add pins s σ H _ _ v u Q I rx ry ⟨i, j, rfl, rfl, o.now sr (.int _)⟩
    | _ => exact lists o
  | str a =>
    cases y' with
    | str b =>
      cases r1; cases r2
      have o' : OutV X.K loc H (if a.length + b.length ≤ LINE then .ok (.str (a ++ b)) S else .no) Q := o
      by_cases hz : a.length + b.length ≤ LINE
      · simp only [hz, if_true] at o'
        refine op_add_str pins s σ H _ _ v u Q I rx ry ⟨_, _, rfl, rfl, by simpa [Str.length, ← LINE_eq] using hz, ?_⟩
        have e : (⟨a.toArray⟩ : Str) ++ ⟨b.toArray⟩ = ⟨(a ++ b).toArray⟩ := by
          show (⟨a.toArray ++ b.toArray⟩ : Str) = _
          simp
        rw [e]
        exact o'.now sr (.str _)
      · simp only [hz, if_false] at o'; exact o'.elim
    | _ => exact lists o
  | tup l1 =>
    cases y' with
    | tup l2 =>
      obtain ⟨a, xs, rfl, ha, ra⟩ := r1.tupAt
      obtain ⟨b, ys, rfl, hb, rb⟩ := r2.tupAt
      have o' : OutV X.K loc H (if l1.length + l2.length ≤ LINE then .ok (.tup (l1 ++ l2)) S else .no) Q := o
      by_cases hz : l1.length + l2.length ≤ LINE
      · simp only [hz, if_true] at o'
        refine op_catA pins s σ H _ _ v u Q I rx ry ⟨a, b, xs, ys, rfl, rfl, ha, hb, by rw [← ra.length, ← rb.length, ← LINE_eq]; exact hz, fun e => ?_, fun _ e => ?_, fun _ _ p hp => o'.newTup sr (ra.append rb) hp⟩
        · subst e
          cases ra
          exact o'.now sr r2
        · subst e
          cases rb
          rw [List.append_nil] at o'
          exact o'.now sr r1
      · simp only [hz, if_false] at o'; exact o'.elim
    | _ => exact lists o
  | _ => exact lists o
theorem opF_sub : OpR X (binaryOp .Sub) (rV2 X.K (opF .sub)) := by
  intro pins s σ H x y v u Q I rx ry h
  obtain ⟨loc, S, x', y', sr, r1, r2, o⟩ := h
  cases x' with
  | int i =>
    cases y' with
    | int j =>
      cases r1; cases r2
      exact op_sub pins s σ H _ _ v u Q I rx ry ⟨i, j, rfl, rfl, o.now sr (.int _)⟩
    | _ => exact o.elim
  | _ => exact o.elim
theorem opF_fdiv : OpR X (binaryOp .FloorDiv) (rV2 X.K (opF .fdiv)) := by
  intro pins s σ H x y v u Q I rx ry h
  obtain ⟨loc, S, x', y', sr, r1, r2, o⟩ := h
  cases x' with
  | int i =>
    cases y' with
    | int j =>
      cases r1; cases r2
      have o' : OutV X.K loc H (if j ≠ 0 ∧ j.natAbs < 2 ^ 8999 then .ok (.int (i.fdiv j)) S else .no) Q := o
      by_cases hc : j ≠ 0 ∧ j.natAbs < 2 ^ 8999
      · rw [if_pos hc] at o'
        exact op_fdivA pins s σ H _ _ v u Q I rx ry ⟨i, j, rfl, rfl, hc, o'.now sr (.int _)⟩
      · rw [if_neg hc] at o'; exact o'.elim
    | _ => exact o.elim
  | _ => exact o.elim
theorem opF_mod : OpR X (binaryOp .Mod) (rV2 X.K (opF .mod)) := by
  intro pins s σ H x y v u Q I rx ry h
  obtain ⟨loc, S, x', y', sr, r1, r2, o⟩ := h
  cases x' with
  | int i =>
    cases y' with
    | int j =>
      cases r1; cases r2
      have o' : OutV X.K loc H (if j ≠ 0 then .ok (.int (i.fmod j)) S else .no) Q := o
      by_cases hc : j ≠ 0
      · rw [if_pos hc] at o'
        exact op_modN pins s σ H _ _ v u Q I rx ry ⟨i, j, rfl, rfl, hc, o'.now sr (.int _)⟩
      · rw [if_neg hc] at o'; exact o'.elim
    | _ => exact o.elim
  | _ => exact o.elim
theorem opF_pow : OpR X (binaryOp .Pow) (rV2 X.K (opF .pow)) := by
  intro pins s σ H x y v u Q I rx ry h
  obtain ⟨loc, S, x', y', sr, r1, r2, o⟩ := h
  cases x' with
  | int i =>
    cases y' with
    | int j =>
      cases r1; cases r2
      have o' : OutV X.K loc H (if 0 ≤ j ∧ j ≤ 1000 ∧ i.natAbs < B64 then .ok (.int (i ^ j.toNat)) S else .no) Q := o
      by_cases hc : 0 ≤ j ∧ j ≤ 1000 ∧ i.natAbs < B64
      · rw [if_pos hc] at o'
        exact op_pow pins s σ H _ _ v u Q I rx ry ⟨i, j, rfl, rfl, ⟨hc.1, by omega, Nat.lt_of_lt_of_le hc.2.2 (by decide)⟩, o'.now sr (.int _)⟩
      · rw [if_neg hc] at o'; exact o'.elim
    | _ => exact o.elim
  | _ => exact o.elim
end
end Pf

set_option linter.all false
set_option Elab.async false
set_option maxRecDepth 100000
set_option autoImplicit false
namespace Pf
open PySem PySem.Spec PyProof.Rows L2

/-! ### data -/
mutual
theorem cl_dp {K : PySem.W.Frag} {H : Hp} {loc : Loc} : ∀ (d : D) (v : V), cl d = true → RelD K H loc d v → Dp K H v (toPy d)
  | .non, _, _, r => by cases r; exact .non
  | .bl b, _, _, r => by cases r; exact .bl b
  | .int i, _, _, r => by cases r; exact .int i
  | .str s, _, _, r => by cases r; exact .str _
  | .tup l, v, h, r => by
    obtain ⟨a, xs, rfl, hq, rs⟩ := r.tupAt
    exact .tup hq (cls_dp l xs h rs)
  | .lst l, v, h, r => by
    cases r with
    | lst h1 n rs => exact .lst (SqL.of h1) (cls_dp l _ h rs)
  | .ref n, v, h, r => by cases h
  | .scr l, v, h, r => by cases h
theorem cls_dp {K : PySem.W.Frag} {H : Hp} {loc : Loc} : ∀ (l : List D) (vs : List V), cls l = true → RelDs K H loc l vs → DpAll K H vs (toPys l)
  | [], _, _, r => by cases r; exact .nil
  | x :: xs, _, h, r => by
    cases r with
    | cons r1 r2 =>
      have h' := Bool.and_eq_true_iff.mp (show (cl x && cls xs) = true from h)
      exact .cons (cl_dp x _ h'.1 r1) (cls_dp xs _ h'.2 r2)
end
mutual
theorem toPy_depth : ∀ d : D, (toPy d).depth = dep d
  | .non => rfl
  | .bl _ => rfl
  | .int _ => rfl
  | .str _ => rfl
  | .tup l => by
    have := toPys_depth l
    show (PyData.tuple (toPys l)).depth = deps l + 1
    rw [PyData.depth, this]
  | .lst l => by
    have := toPys_depth l
    show (PyData.list (toPys l)).depth = deps l + 1
    rw [PyData.depth, this]
  | .ref _ => rfl
  | .scr _ => rfl
theorem toPys_depth : ∀ l : List D, PyData.depthAll (toPys l) = deps l
  | [] => rfl
  | x :: xs => by
    show PyData.depthAll (toPy x :: toPys xs) = max (dep x) (deps xs)
    rw [PyData.depthAll, toPy_depth x, toPys_depth xs]
end
mutual
theorem toPy_lay : ∀ d : D, cl d = true → (toPy d).canLay0 = true
  | .non, _ => rfl
  | .bl _, _ => rfl
  | .int _, _ => rfl
  | .str s, h => by
    show (PyData.str ⟨s.toArray⟩).canLay0 = true
    rw [PyData.canLay0]
    have h' : s.all (· < 0x110000) = true := h
    show Array.all s.toArray (· < 0x110000) = true
    simpa using h'
  | .tup l, h => by
    show (PyData.tuple (toPys l)).canLay0 = true
    rw [PyData.canLay0]
    exact toPys_lay l h
  | .lst l, h => by
    show (PyData.list (toPys l)).canLay0 = true
    rw [PyData.canLay0]
    exact toPys_lay l h
  | .ref _, h => by cases h
  | .scr _, h => by cases h
theorem toPys_lay : ∀ l : List D, cls l = true → PyData.canLayAll0 (toPys l) = true
  | [], _ => rfl
  | x :: xs, h => by
    have h' := Bool.and_eq_true_iff.mp (show (cl x && cls xs) = true from h)
    show PyData.canLayAll0 (toPy x :: toPys xs) = true
    rw [PyData.canLayAll0, toPy_lay x h'.1, toPys_lay xs h'.2] <;> rfl
end
theorem str_beq (x y : List Nat) : ((⟨x.toArray⟩ : Str) == ⟨y.toArray⟩) = (x == y) := by
  by_cases e : x = y
  · subst e; simp
  · rw [beq_eq_false_iff_ne.mpr e]
    refine beq_eq_false_iff_ne.mpr fun q => e ?_
    have : x.toArray = y.toArray := congrArg Str.cps q
    simpa using this
mutual
theorem toPy_eqv : ∀ a b : D, cl a = true → cl b = true → PyData.eqv (toPy a) (toPy b) = eqD a b
  | .tup xs, b, ha, hb => by
    cases b with
    | tup ys =>
      show PyData.eqv (.tuple (toPys xs)) (.tuple (toPys ys)) = eqDs xs ys
      rw [PyData.eqv]
      exact toPys_eqv xs ys ha hb
    | ref _ => cases hb
    | scr _ => cases hb
    | _ => simp only [toPy, PyData.eqv, eqD]
  | .lst xs, b, ha, hb => by
    cases b with
    | lst ys =>
      show PyData.eqv (.list (toPys xs)) (.list (toPys ys)) = eqDs xs ys
      rw [PyData.eqv]
      exact toPys_eqv xs ys ha hb
    | ref _ => cases hb
    | scr _ => cases hb
    | _ => simp only [toPy, PyData.eqv, eqD]
  | .str x, b, ha, hb => by
    cases b with
    | str y =>
      show PyData.eqv (.str ⟨x.toArray⟩) (.str ⟨y.toArray⟩) = (x == y)
      rw [PyData.eqv, str_beq]
    | ref _ => cases hb
    | scr _ => cases hb
    | _ => simp only [toPy, PyData.eqv, eqD]
  | .non, b, ha, hb => by
    cases b with
    | ref _ => cases hb
    | scr _ => cases hb
    | _ => simp only [toPy, PyData.eqv, eqD]
  | .bl _, b, ha, hb => by
    cases b with
    | ref _ => cases hb
    | scr _ => cases hb
    | _ => simp only [toPy, PyData.eqv, eqD]
  | .int _, b, ha, hb => by
    cases b with
    | ref _ => cases hb
    | scr _ => cases hb
    | _ => simp only [toPy, PyData.eqv, eqD]
  | .ref _, b, ha, hb => by cases ha
  | .scr _, b, ha, hb => by cases ha
theorem toPys_eqv : ∀ a b : List D, cls a = true → cls b = true → PyData.eqvAll (toPys a) (toPys b) = eqDs a b
  | [], [], _, _ => rfl
  | [], _ :: _, _, _ => rfl
  | _ :: _, [], _, _ => rfl
  | x :: xs, y :: ys, ha, hb => by
    have h1 := Bool.and_eq_true_iff.mp (show (cl x && cls xs) = true from ha)
    have h2 := Bool.and_eq_true_iff.mp (show (cl y && cls ys) = true from hb)
    show PyData.eqvAll (toPy x :: toPys xs) (toPy y :: toPys ys) = (eqD x y && eqDs xs ys)
    rw [PyData.eqvAll, toPy_eqv x y h1.1 h2.1, toPys_eqv xs ys h1.2 h2.2]
end
theorem okD_cl {d : D} (h : okD d = true) : cl d = true := (Bool.and_eq_true_iff.mp h).1
theorem okD_dep {d : D} (h : okD d = true) : dep d ≤ 60 := of_decide_eq_true (Bool.and_eq_true_iff.mp h).2
theorem okD_shaped {d : D} (h : okD d = true) : SeqAt.shaped (toPy d) = true := by
  unfold SeqAt.shaped
  rw [toPy_lay d (okD_cl h), toPy_depth, Bool.true_and]
  exact decide_eq_true (Nat.le_trans (okD_dep h) (by decide))
section
variable {K : PySem.W.Frag} {H : Hp} {loc : Loc} {S : Store}
/-- a live list as data -/
theorem der_dp {d : D} {v : V} (s : StoreR K H loc S) (r : RelD K H loc d v) (h : cl (der S d) = true) : Dp K H v (toPy (der S d)) := by
  cases d with
  | ref n =>
    have e : der S (.ref n) = match S[n]? with | some (.lst l) => .lst l | _ => .ref n := rfl
    cases q : S[n]? with
    | none => rw [e, q] at h; cases h
    | some ob =>
      cases ob with
      | lst l =>
        rw [q] at e
        rw [e] at h ⊢
        obtain ⟨a, xs, h1, h2, h3⟩ := s.lst q
        cases r with
        | ref hn hr =>
          rw [hr a h1]
          exact .lst (SqL.of h2) (cls_dp l xs h h3)
      | _ => rw [e, q] at h; cases h
  | _ => exact cl_dp _ v h r
end

section
variable {X : Cx}
theorem cmpF_eq (hu : X.A.units + 64 < cLine) : OpR X (compareOp .Eq) (rV2 X.K (cmpF .eq)) := by
  intro pins s σ H x y v u Q I rx ry h
  obtain ⟨loc, S, x', y', sr, r1, r2, o⟩ := h
  have o' : OutV X.K loc H (if (okD (der S x') && okD (der S y')) = true then .ok (.bl (eqD (der S x') (der S y'))) S else .no) Q := o
  by_cases hc : (okD (der S x') && okD (der S y')) = true
  · rw [if_pos hc] at o'
    obtain ⟨h1, h2⟩ := Bool.and_eq_true_iff.mp hc
    refine op_eqD hu pins s σ H _ _ v u Q I rx ry ⟨_, _, der_dp sr r1 (okD_cl h1), der_dp sr r2 (okD_cl h2), okD_shaped h1, okD_shaped h2, ?_⟩
    rw [toPy_eqv _ _ (okD_cl h1) (okD_cl h2)]
    exact o'.now sr (.bl _)
  · rw [if_neg hc] at o'; exact o'.elim
theorem cmpF_ne (hu : X.A.units + 64 < cLine) : OpR X (compareOp .NotEq) (rV2 X.K (cmpF .ne)) := by
  intro pins s σ H x y v u Q I rx ry h
  obtain ⟨loc, S, x', y', sr, r1, r2, o⟩ := h
  have o' : OutV X.K loc H (if (okD (der S x') && okD (der S y')) = true then .ok (.bl (!eqD (der S x') (der S y'))) S else .no) Q := o
  by_cases hc : (okD (der S x') && okD (der S y')) = true
  · rw [if_pos hc] at o'
    obtain ⟨h1, h2⟩ := Bool.and_eq_true_iff.mp hc
    refine op_neD hu pins s σ H _ _ v u Q I rx ry ⟨_, _, der_dp sr r1 (okD_cl h1), der_dp sr r2 (okD_cl h2), okD_shaped h1, okD_shaped h2, ?_⟩
    rw [toPy_eqv _ _ (okD_cl h1) (okD_cl h2)]
    exact o'.now sr (.bl _)
  · rw [if_neg hc] at o'; exact o'.elim
theorem cmpF_lt : OpR X (compareOp .Lt) (rV2 X.K (cmpF .lt)) := by
  intro pins s σ H x y v u Q I rx ry h
  obtain ⟨loc, S, x', y', sr, r1, r2, o⟩ := h
  cases x' with
  | int i =>
    cases y' with
    | int j => cases r1; cases r2; exact op_lt pins s σ H _ _ v u Q I rx ry ⟨i, j, rfl, rfl, o.now sr (.bl _)⟩
    | _ => exact o.elim
  | _ => exact o.elim
theorem cmpF_le : OpR X (compareOp .LtE) (rV2 X.K (cmpF .le)) := by
  intro pins s σ H x y v u Q I rx ry h
  obtain ⟨loc, S, x', y', sr, r1, r2, o⟩ := h
  cases x' with
  | int i =>
    cases y' with
    | int j => cases r1; cases r2; exact op_le pins s σ H _ _ v u Q I rx ry ⟨i, j, rfl, rfl, o.now sr (.bl _)⟩
    | _ => exact o.elim
  | _ => exact o.elim
theorem cmpF_gt : OpR X (compareOp .Gt) (rV2 X.K (cmpF .gt)) := by
  intro pins s σ H x y v u Q I rx ry h
  obtain ⟨loc, S, x', y', sr, r1, r2, o⟩ := h
  cases x' with
  | int i =>
    cases y' with
    | int j => cases r1; cases r2; exact op_gt pins s σ H _ _ v u Q I rx ry ⟨i, j, rfl, rfl, o.now sr (.bl _)⟩
    | _ => exact o.elim
  | _ => exact o.elim
theorem cmpF_ge : OpR X (compareOp .GtE) (rV2 X.K (cmpF .ge)) := by
  intro pins s σ H x y v u Q I rx ry h
  obtain ⟨loc, S, x', y', sr, r1, r2, o⟩ := h
  cases x' with
  | int i =>
    cases y' with
    | int j => cases r1; cases r2; exact op_ge pins s σ H _ _ v u Q I rx ry ⟨i, j, rfl, rfl, o.now sr (.bl _)⟩
    | _ => exact o.elim
  | _ => exact o.elim
def isNon : D → Bool
  | .non => true
  | _ => false
theorem is_none {K : PySem.W.Frag} {H : Hp} {loc : Loc} {d : D} {v : V} (r : RelD K H loc d v) (h : ∀ n, d ≠ .ref n) : decide (v = .non) = isNon d := by
  cases r with
  | non => rfl
  | ref hn hr => exact absurd rfl (h _)
  | _ => rfl
theorem cmpF_is : OpR X (compareOp .Is) (rV2 X.K (cmpF .is)) := by
  intro pins s σ H x y v u Q I rx ry h
  obtain ⟨loc, S, x', y', sr, r1, r2, o⟩ := h
  have nn : y' = .non ∧ (∀ n, x' ≠ .ref n) ∧ OutV X.K loc H (.ok (.bl (isNon x')) S) Q := by
    cases x' with
    | ref n => exact o.elim
    | non =>
      cases y' with
      | non => exact ⟨rfl, (fun _ h => nomatch h), o⟩
      | _ => exact o.elim
    | _ =>
      cases y' with
      | non => exact ⟨rfl, (fun _ h => nomatch h), o⟩
      | _ => exact o.elim
  obtain ⟨rfl, hn, o⟩ := nn
  cases r2
  refine op_isN pins s σ H _ _ v u Q I rx ry ⟨rfl, ?_⟩
  rw [is_none r1 hn]
  exact o.now sr (.bl _)
theorem cmpF_isnot : OpR X (compareOp .IsNot) (rV2 X.K (cmpF .isnot)) := by
  intro pins s σ H x y v u Q I rx ry h
  obtain ⟨loc, S, x', y', sr, r1, r2, o⟩ := h
  have nn : y' = .non ∧ (∀ n, x' ≠ .ref n) ∧ OutV X.K loc H (.ok (.bl (!isNon x')) S) Q := by
    cases x' with
    | ref n => exact o.elim
    | non =>
      cases y' with
      | non => exact ⟨rfl, (fun _ h => nomatch h), o⟩
      | _ => exact o.elim
    | _ =>
      cases y' with
      | non => exact ⟨rfl, (fun _ h => nomatch h), o⟩
      | _ => exact o.elim
  obtain ⟨rfl, hn, o⟩ := nn
  cases r2
  refine op_notN pins s σ H _ _ v u Q I rx ry ⟨rfl, ?_⟩
  rw [is_none r1 hn]
  exact o.now sr (.bl _)
/-! ### in -/
theorem flat_V {K : PySem.W.Frag} {H : Hp} {loc : Loc} {d : D} {v : V} (r : RelD K H loc d v) (h : flat d = true) : flatV v = true := by
  cases r with
  | non => rfl
  | bl b => rfl
  | int i => rfl
  | str s => rfl
  | _ => cases h
theorem flat_all {K : PySem.W.Frag} {H : Hp} {loc : Loc} : ∀ {l : List D} {vs : List V}, RelDs K H loc l vs → l.all flat = true → vs.all flatV = true
  | _, _, .nil, _ => rfl
  | x :: xs, _ :: _, .cons r t, h => by
    rw [List.all_cons, Bool.and_eq_true] at h
    rw [List.all_cons, flat_V r h.1, flat_all t h.2] <;> rfl
theorem eqV_eqD {K : PySem.W.Frag} {H : Hp} {loc : Loc} {a b : D} {v w : V} (r : RelD K H loc a v) (q : RelD K H loc b w) (ha : flat a = true) (hb : flat b = true) : eqV v w = eqD a b := by
  cases r with
  | non => cases q with
    | non => rfl
    | bl b => rfl
    | int i => rfl
    | str s => rfl
    | _ => cases hb
  | bl b => cases q with
    | non => rfl
    | bl b => rfl
    | int i => rfl
    | str s => rfl
    | _ => cases hb
  | int i => cases q with
    | non => rfl
    | bl b => rfl
    | int i => rfl
    | str s => rfl
    | _ => cases hb
  | str s => cases q with
    | non => rfl
    | bl b => rfl
    | int i => rfl
    | str z => exact str_beq s z
    | _ => cases hb
  | _ => cases ha
theorem inV_eq {K : PySem.W.Frag} {H : Hp} {loc : Loc} {b : D} {w : V} (q : RelD K H loc b w) (hb : flat b = true) : ∀ {l : List D} {vs : List V}, RelDs K H loc l vs → l.all flat = true → inV w vs = l.any fun x => eqD x b
  | _, _, .nil, _ => rfl
  | x :: xs, v :: vs, .cons r t, h => by
    rw [List.all_cons, Bool.and_eq_true] at h
    have := inV_eq q hb t h.2
    show (v :: vs).any (fun y => eqV y w) = _
    rw [List.any_cons, List.any_cons, eqV_eqD r q h.1 hb]
    unfold inV at this
    rw [this]
theorem cmpF_in : OpR X (compareOp .In) (rV2 X.K (cmpF .isin)) := by
  intro pins s σ H x y v u Q I rx ry h
  obtain ⟨loc, S, x', y', sr, r1, r2, o⟩ := h
  have o' : OutV X.K loc H (match getS S y' with
    | some l => if (flat x' && l.all flat) = true then .ok (.bl (l.any fun x => eqD x x')) S else .no
    | none => .no) Q := o
  cases e : getS S y' with
  | none => rw [e] at o'; exact o'.elim
  | some l =>
    rw [e] at o'
    by_cases hc : (flat x' && l.all flat) = true
    · simp only [hc, if_true] at o'
      obtain ⟨h1, h2⟩ := Bool.and_eq_true_iff.mp hc
      obtain ⟨a, xs, rfl, hq, ra⟩ := getS_at sr e r2
      refine op_in_seq pins s σ H _ _ v u Q I rx ry ⟨a, xs, rfl, hq, flat_V r1 h1, flat_all ra h2, ?_⟩
      show Q (.bl (inV x xs)) H
      rw [inV_eq r1 h1 ra h2]
      exact o'.now sr (.bl _)
    · simp only [hc, if_false] at o'; exact o'.elim
theorem cmpF_notin : OpR X (compareOp .NotIn) (rV2 X.K (cmpF .notin)) := by
  intro pins s σ H x y v u Q I rx ry h
  obtain ⟨loc, S, x', y', sr, r1, r2, o⟩ := h
  have o' : OutV X.K loc H (match getS S y' with
    | some l => if (flat x' && l.all flat) = true then .ok (.bl (!l.any fun x => eqD x x')) S else .no
    | none => .no) Q := o
  cases e : getS S y' with
  | none => rw [e] at o'; exact o'.elim
  | some l =>
    rw [e] at o'
    by_cases hc : (flat x' && l.all flat) = true
    · simp only [hc, if_true] at o'
      obtain ⟨h1, h2⟩ := Bool.and_eq_true_iff.mp hc
      obtain ⟨a, xs, rfl, hq, ra⟩ := getS_at sr e r2
      refine op_notIn_seq pins s σ H _ _ v u Q I rx ry ⟨a, xs, rfl, hq, flat_V r1 h1, flat_all ra h2, ?_⟩
      show Q (.bl (!inV x xs)) H
      rw [inV_eq r1 h1 ra h2]
      exact o'.now sr (.bl _)
    · simp only [hc, if_false] at o'; exact o'.elim
end
end Pf

set_option linter.all false
set_option Elab.async false
set_option maxRecDepth 100000
set_option autoImplicit false
namespace Pf
open PySem PySem.Spec PyProof.Rows L2

section
variable {K : PySem.W.Frag} {H : Hp} {loc : Loc} {S : Store}
/-! ### dicts -/
theorem keyOk_key {d : D} {v : V} (r : RelD K H loc d v) (h : keyOk d = true) : ∃ k, KeyR d k ∧ v = kV k := by
  cases r with
  | int i => exact ⟨_, .int i, rfl⟩
  | str s => exact ⟨_, .str s, rfl⟩
  | _ => cases h
theorem KeyR.eq {a b : D} {k q : Key} (h : KeyR a k) (h' : KeyR b q) : eqD a b = decide (k = q) := by
  cases h with
  | int i => cases h' with
    | int j =>
      show (i == j) = _
      rw [key_ll]
    | str s => rw [key_lr]; rfl
  | str s => cases h' with
    | int j => rw [key_rl]; rfl
    | str t =>
      show (s == t) = _
      rw [key_rr, ← str_beq]
      by_cases e : (⟨s.toArray⟩ : Str) = ⟨t.toArray⟩
      · rw [e]; simp
      · rw [decide_eq_false e]; exact beq_eq_false_iff_ne.mpr e
theorem lookD_at {k : D} {q : Key} (hk : KeyR k q) : ∀ {ds : List (D × D)} {vs : List (Key × V)} {d : D}, RelKV K H loc ds vs → lookD k ds = some d → ∃ v, valV vs q = some v ∧ RelD K H loc d v
  | _, _, _, .nil, e => by cases e
  | _, _, d, .cons (k := a) (d := w) (q := q') (v := v') ka r t, e => by
    have e' : (if eqD a k = true then some w else lookD k _) = some d := e
    rw [ka.eq hk] at e'
    by_cases h : q' = q
    · rw [decide_eq_true h, if_pos rfl] at e'
      cases e'
      exact ⟨v', valV_pos (p := (q', v')) h, r⟩
    · rw [decide_eq_false h, if_neg Bool.false_ne_true] at e'
      obtain ⟨v, h1, h2⟩ := lookD_at hk t e'
      exact ⟨v, by rw [valV_neg (p := (q', v')) h]; exact h1, h2⟩
theorem any_at {k : D} {q : Key} (hk : KeyR k q) : ∀ {ds : List (D × D)} {vs : List (Key × V)}, RelKV K H loc ds vs → ds.any (fun p => eqD p.1 k) = vs.any fun p => decide (p.1 = q)
  | _, _, .nil => rfl
  | _, _, .cons ka _ t => by rw [List.any_cons, List.any_cons, any_at hk t, ka.eq hk]
theorem map_at {k d : D} {q : Key} {v : V} (hk : KeyR k q) (r : RelD K H loc d v) : ∀ {ds : List (D × D)} {vs : List (Key × V)}, RelKV K H loc ds vs →
    RelKV K H loc (ds.map fun p => if eqD p.1 k = true then (p.1, d) else p) (vs.map fun p => if p.1 = q then (p.1, v) else p)
  | _, _, .nil => .nil
  | _, _, .cons (k := a) (q := q') ka ra t => by
    rw [List.map_cons, List.map_cons, ka.eq hk]
    by_cases h : q' = q
    · rw [decide_eq_true h, if_pos rfl, if_pos h]
      exact .cons ka r (map_at hk r t)
    · rw [decide_eq_false h, if_neg Bool.false_ne_true, if_neg h]
      exact .cons ka ra (map_at hk r t)
theorem RelKV.append : ∀ {xs ys : List (D × D)} {us ws : List (Key × V)}, RelKV K H loc xs us → RelKV K H loc ys ws → RelKV K H loc (xs ++ ys) (us ++ ws)
  | _, _, _, _, .nil, s => s
  | _, _, _, _, .cons k r t, s => .cons k r (RelKV.append t s)
theorem RelKV.length : ∀ {xs : List (D × D)} {us : List (Key × V)}, RelKV K H loc xs us → xs.length = us.length
  | _, _, .nil => rfl
  | _, _, .cons k r t => by rw [List.length_cons, List.length_cons, RelKV.length t]
theorem putD_at {k d : D} {q : Key} {v : V} (hk : KeyR k q) (r : RelD K H loc d v) {ds : List (D × D)} {vs : List (Key × V)} (h : RelKV K H loc ds vs) : RelKV K H loc (putD k d ds) (putK vs q v) := by
  unfold putD putK
  rw [any_at hk h]
  split
  · exact map_at hk r h
  · exact h.append (.cons hk r .nil)
end
theorem putD_wf {b : Nat} {k v : D} {l : List (D × D)} (hv : below b v = true) (h : belows b (l.map (·.2)) = true) : belows b ((putD k v l).map (·.2)) = true := by
  rw [belows_mem] at h ⊢
  intro x hx
  obtain ⟨p, hp, rfl⟩ := List.mem_map.mp hx
  unfold putD at hp
  split at hp
  · obtain ⟨q, hq, rfl⟩ := List.mem_map.mp hp
    split
    · exact hv
    · exact h _ (List.mem_map.mpr ⟨q, hq, rfl⟩)
  · rcases List.mem_append.mp hp with m | m
    · exact h _ (List.mem_map.mpr ⟨p, m, rfl⟩)
    · simp at m
      subst m
      exact hv
section
variable {X : Cx}
theorem idxF_ok (hu : X.A.units + 64 < cLine) : IxR X (rV2 X.K idxF) := by
  intro value slice pins s σ H x y v u Q I rx ry h hs
  obtain ⟨loc, S, x', y', sr, r1, r2, o⟩ := h
  cases x' with
  | tup l =>
    cases y' with
    | int i =>
      have o' : OutV X.K loc H (match L2.atI l i with | some d => .ok d S | none => .no) Q := o
      cases e : L2.atI l i with
      | none => rw [e] at o'; exact o'.elim
      | some d =>
        rw [e] at o'
        obtain ⟨a, xs, rfl, hq, ra⟩ := r1.tupAt
        cases r2
        obtain ⟨w, e2, rw'⟩ := ra.atI e
        exact ix_tup value slice pins s σ H _ _ v u Q I rx ry ⟨a, xs, i, w, rfl, rfl, hq, e2, o'.now sr rw'⟩ hs
    | _ => exact o.elim
  | lst l =>
    cases y' with
    | int i =>
      have o' : OutV X.K loc H (match L2.atI l i with | some d => .ok d S | none => .no) Q := o
      cases e : L2.atI l i with
      | none => rw [e] at o'; exact o'.elim
      | some d =>
        rw [e] at o'
        obtain ⟨a, xs, rfl, hq, ra⟩ := getL_at (S := S) (d := .lst l) sr rfl r1
        cases r2
        obtain ⟨w, e2, rw'⟩ := ra.atI e
        exact ix_list value slice pins s σ H _ _ v u Q I rx ry ⟨a, xs, i, w, rfl, rfl, SqL.of hq, e2, o'.now sr rw'⟩ hs
    | _ => exact o.elim
  | str l =>
    cases y' with
    | int i =>
      have o' : OutV X.K loc H (match L2.atI l i with | some c => if l.length ≤ LINE then .ok (.str [c]) S else .no | none => .no) Q := o
      cases e : L2.atI l i with
      | none => rw [e] at o'; exact o'.elim
      | some d =>
        rw [e] at o'
        by_cases hz : l.length ≤ LINE
        · simp only [hz, if_true] at o'
          cases r1
          cases r2
          exact ix_str value slice pins s σ H _ _ v u Q I rx ry ⟨_, i, d, rfl, rfl, by simpa [Str.length, ← LINE_eq] using hz, by simpa using e, o'.now sr (.str [d])⟩ hs
        · simp only [hz, if_false] at o'; exact o'.elim
    | _ => exact o.elim
  | ref n =>
    have o' : OutV X.K loc H (match S[n]? with
      | some (.lst l) => match y' with
        | .int k => match L2.atI l k with | some d => .ok d S | none => .no
        | _ => .no
      | some (.dic kvs) => if keyOk y' = true then match lookD y' kvs with | some d => .ok d S | none => .no else .no
      | _ => .no) Q := by cases y' <;> exact o
    cases q : S[n]? with
    | none => rw [q] at o'; exact o'.elim
    | some ob =>
      rw [q] at o'
      cases ob with
      | dead => exact o'.elim
      | lst l =>
        cases y' with
        | int i =>
          have o2 : OutV X.K loc H (match L2.atI l i with | some d => .ok d S | none => .no) Q := o'
          cases e : L2.atI l i with
          | none => rw [e] at o2; exact o2.elim
          | some d =>
            rw [e] at o2
            obtain ⟨a, xs, h1, hq, ra⟩ := sr.lst q
            cases r1 with
            | ref hn hr =>
              obtain rfl := hr a h1
              cases r2
              obtain ⟨w, e2, rw'⟩ := ra.atI e
              exact ix_list value slice pins s σ H _ _ v u Q I rx ry ⟨a, xs, i, w, rfl, rfl, SqL.of hq, e2, o2.now sr rw'⟩ hs
        | _ => exact o'.elim
      | dic kvs =>
        have o2 : OutV X.K loc H (if keyOk y' = true then match lookD y' kvs with | some d => .ok d S | none => .no else .no) Q := o'
        by_cases hk : keyOk y' = true
        · rw [if_pos hk] at o2
          cases e : lookD y' kvs with
          | none => rw [e] at o2; exact o2.elim
          | some d =>
            rw [e] at o2
            obtain ⟨a, xs, h1, hq, ra⟩ := sr.dic q
            obtain ⟨kk, hkk, rfl⟩ := keyOk_key r2 hk
            cases r1 with
            | ref hn hr =>
              obtain rfl := hr a h1
              obtain ⟨w, e2, rw'⟩ := lookD_at hkk ra e
              have g : DGet H a (kV kk) (some w) := by rw [← e2]; exact DGet.k hq
              obtain rfl : v = Value.ref a := rx
              exact tail_any (dict_typeIs I g) PySem.F.slot_dict_getitem.lookup (d_getItem (by omega) I g ry fun w' s3 I3 rw2 => ⟨w, H, I3, rw2, o2.now sr rw'⟩) hs
        · rw [if_neg hk] at o2; exact o2.elim
  | _ => exact o.elim
/-- o[i] = v by values -/
def rSet (K : PySem.W.Frag) : TSet := fun o i v H Q => ∃ loc S o' i' v', StoreR K H loc S ∧ RelD K H loc o' o ∧ RelD K H loc i' i ∧ RelD K H loc v' v ∧
  match setF o' i' v' S with
  | .ok _ S' => ∀ loc' H', Le loc H loc' H' → StoreR K H' loc' S' → Q H'
  | _ => False
theorem setF_ok (hu : X.A.units + 64 < cLine) : PSet X (rSet X.K) := by
  intro pins s σ H o i v ov iv u Q I ro ri rv h
  obtain ⟨loc, S, o', i', v', sr, r1, r2, r3, w⟩ := h
  cases o' with
  | ref n =>
    have w' : (match (match S[n]? with
      | some (.lst l) => match i' with
        | .int k => match L2.ixN l.length k with | some j => if below n v' = true then R.ok () (S.set n (.lst (l.set j v'))) else .no | none => .no
        | _ => .no
      | some (.dic kvs) => if (keyOk i' && decide (kvs.length < LINE) && below n v') = true then .ok () (S.set n (.dic (putD i' v' kvs))) else .no
      | _ => .no) with
      | .ok _ S' => ∀ loc' H', Le loc H loc' H' → StoreR X.K H' loc' S' → Q H'
      | _ => False) := by cases i' <;> exact w
    cases q : S[n]? with
    | none => rw [q] at w'; exact w'.elim
    | some ob =>
      rw [q] at w'
      cases ob with
      | dead => exact w'.elim
      | lst l =>
        cases i' with
        | int k =>
          cases e : L2.ixN l.length k with
          | none => simp only [e] at w'
          | some j =>
            simp only [e] at w'
            by_cases hb : below n v' = true
            rotate_left
            · simp only [hb] at w'; exact w'.elim
            simp only [hb, if_true] at w'
            obtain ⟨a, xs, h1, hq, ra⟩ := sr.lst q
            cases r1 with
            | ref hn hr =>
              obtain rfl := hr a h1
              cases r2
              have le : Le loc H loc (upd H a (.lst (xs.set j v))) := Le.write sr (List.mem_of_getElem? h1)
              exact set_list pins s σ H _ _ v ov iv u Q I ro ri rv ⟨a, xs, k, j, rfl, rfl, hq, by rw [← ra.length]; exact e, w' loc _ le (sr.write h1 (.lst upd_same ((RelDs.set r3 j ra).mono le)) (belows_mem.mpr fun x hx => (List.mem_or_eq_of_mem_set hx).elim (belows_mem.mp (sr.wf n _ q) x) fun e => e ▸ hb))⟩
        | _ => exact w'.elim
      | dic kvs =>
        by_cases hk : (keyOk i' && decide (kvs.length < LINE) && below n v') = true
        · simp only [hk, if_true] at w'
          rw [Bool.and_eq_true, Bool.and_eq_true] at hk
          obtain ⟨⟨hk1, hk2⟩, hb⟩ := hk
          obtain ⟨a, xs, h1, hq, ra⟩ := sr.dic q
          obtain ⟨kk, hkk, rfl⟩ := keyOk_key r2 hk1
          cases r1 with
          | ref hn hr =>
            obtain rfl := hr a h1
            have g : DPut H a (kV kk) v (upd H a (.dK (putK xs kk v))) := DPut.k hq (by rw [← ra.length, ← LINE_eq]; exact of_decide_eq_true hk2)
            obtain rfl : ov = Value.ref a := ro
            have le : Le loc H loc (upd H a (.dK (putK xs kk v))) := Le.write sr (List.mem_of_getElem? h1)
            exact d_setItem (by omega) I g ri rv fun s4 I4 => ⟨_, I4, w' loc _ le (sr.write h1 (.dic upd_same ((putD_at hkk r3 ra).mono le)) (putD_wf hb (sr.wf n _ q)))⟩
        · simp only [hk, if_false] at w'
          exact w'.elim
  | _ => cases i' <;> exact w.elim
end
end Pf

set_option linter.all false
set_option Elab.async false
set_option maxRecDepth 100000
set_option autoImplicit false
namespace Pf
open PySem PySem.Spec PyProof.Rows L2

section
variable {X : Cx}
/-! ### slices -/
def rSl (K : PySem.W.Frag) : V → Option Int → Option Int → Hp → VK → Prop := fun x lo hi H Q => ∃ loc S x', StoreR K H loc S ∧ RelD K H loc x' x ∧ OutV K loc H (sliF x' lo hi S) Q
theorem cut_whole {α : Type} (l : List α) (lo hi : Option Int) (h : HT.sIx l.length 0 lo = 0 ∧ HT.sIx l.length l.length hi = l.length) : cut l lo hi = l := by
  unfold cut
  rw [h.1, h.2]
  simp
theorem sliF_ok : SlR X (rSl X.K) := by
  intro pins s σ H x v vl vu lo hi sl Q I rx hs pl pu h
  obtain ⟨loc, S, x', sr, r1, o⟩ := h
  have lists : ∀ l, getL S x' = some l → OutV X.K loc H (.ok (.lst (cut l lo hi)) S) Q → ∃ T id, typeLookup (.type T) "__getitem__" = pure (some (.builtin id)) ∧ s.TypeIs v T ∧ wpAny (model X.prog X.w) X.A (getItem v (.ref sl)) (EP X pins σ Q) X.xe s := fun l e o => by
    obtain ⟨a, xs, rfl, hq, ra⟩ := getL_at sr e r1
    exact sl_list pins s σ H _ v vl vu lo hi sl Q I rx hs pl pu ⟨a, xs, rfl, SqL.of hq, fun p hp => o.newLst sr (ra.cut lo hi) hp⟩
  cases x' with
  | tup l =>
    obtain ⟨a, xs, rfl, hq, ra⟩ := r1.tupAt
    have o' : OutV X.K loc H (.ok (.tup (cut l lo hi)) S) Q := o
    refine sl_tupA pins s σ H _ v vl vu lo hi sl Q I rx hs pl pu ⟨a, xs, rfl, hq, fun hw => ?_, fun _ p hp => o'.newTup sr (ra.cut lo hi) hp⟩
    rw [← ra.length] at hw
    rw [cut_whole l lo hi hw] at o'
    exact o'.now sr r1
  | lst l => exact lists l rfl o
  | ref n =>
    have o' : OutV X.K loc H (match getL S (.ref n) with | some l => .ok (.lst (cut l lo hi)) S | none => .no) Q := o
    cases e : getL S (.ref n) with
    | none => rw [e] at o'; exact o'.elim
    | some l => rw [e] at o'; exact lists l e o'
  | str l =>
    have o' : OutV X.K loc H (if l.length ≤ LINE then .ok (.str (cut l lo hi)) S else .no) Q := o
    by_cases hz : l.length ≤ LINE
    · rw [if_pos hz] at o'
      cases r1
      exact sl_str pins s σ H _ v vl vu lo hi sl Q I rx hs pl pu ⟨_, rfl, by simpa [Str.length, ← LINE_eq] using hz, o'.now sr (.str _)⟩
    · rw [if_neg hz] at o'; exact o'.elim
  | _ => exact o.elim
/-! ### built-ins -/
theorem rel1 {K : PySem.W.Frag} {H : Hp} {loc : Loc} {d : D} {xs : List V} (r : RelDs K H loc [d] xs) : ∃ v, xs = [v] ∧ RelD K H loc d v := by
  cases r with
  | cons r t => cases t; exact ⟨_, rfl, r⟩
theorem rel2 {K : PySem.W.Frag} {H : Hp} {loc : Loc} {d e : D} {xs : List V} (r : RelDs K H loc [d, e] xs) : ∃ v w, xs = [v, w] ∧ RelD K H loc d v ∧ RelD K H loc e w := by
  cases r with
  | cons r t => cases t with
    | cons q t => cases t; exact ⟨_, _, rfl, r, q⟩
theorem biF_one {f : Value} {b : Bi} (h2 : ∀ a c S, bi2 b a c S = .no) (h : ∀ (pins : List (Addr × Obj)) (s : Shared) (σ : L2.St) (H : Hp) (x : V) (u : Value) (Q : VK), Inv X pins σ H s → RelV x u → rV1 X.K (bi1 b) x H Q →
    wpAny (model X.prog X.w) X.A (call f [u]) (EP X pins σ Q) X.xe s) : CallR X f (rVn X.K (biF b)) := by
  intro pins s σ H xs us Q I r hh
  obtain ⟨loc, S, as, sr, ra, o⟩ := hh
  match as, ra, o with
  | [], _, o => exact o.elim
  | [a], ra, o =>
    obtain ⟨v, rfl, rv⟩ := rel1 ra
    obtain ⟨u, rfl, ru⟩ := vals1 r
    exact h pins s σ H v u Q I ru ⟨loc, S, a, sr, rv, o⟩
  | [a, c], _, o =>
    have o' : OutV X.K loc H (bi2 b a c S) Q := o
    rw [h2] at o'
    exact o'.elim
  | _ :: _ :: _ :: _, _, o => exact o.elim
theorem biF_two {f : Value} {b : Bi} (h1 : ∀ a S, bi1 b a S = .no) (h : ∀ (pins : List (Addr × Obj)) (s : Shared) (σ : L2.St) (H : Hp) (x y : V) (u w : Value) (Q : VK), Inv X pins σ H s → RelV x u → RelV y w → rV2 X.K (bi2 b) x y H Q →
    wpAny (model X.prog X.w) X.A (call f [u, w]) (EP X pins σ Q) X.xe s) : CallR X f (rVn X.K (biF b)) := by
  intro pins s σ H xs us Q I r hh
  obtain ⟨loc, S, as, sr, ra, o⟩ := hh
  match as, ra, o with
  | [], _, o => exact o.elim
  | [a], ra, o =>
    have o' : OutV X.K loc H (bi1 b a S) Q := o
    rw [h1] at o'
    exact o'.elim
  | [a, c], ra, o =>
    obtain ⟨v, w, rfl, rv, rw'⟩ := rel2 ra
    obtain ⟨u, u2, rfl, ru, ru2⟩ := vals2 r
    exact h pins s σ H v w u u2 Q I ru ru2 ⟨loc, S, a, c, sr, rv, rw', o⟩
  | _ :: _ :: _ :: _, _, o => exact o.elim
theorem biF_int : CallR X (.type "int") (rVn X.K (biF .int)) := biF_one (fun _ _ _ => rfl) fun pins s σ H x u Q I r h => by
  obtain ⟨loc, S, a, sr, ra, o⟩ := h
  cases a with
  | int i => cases ra; exact call_int1 pins s σ H [_] [u] Q I (.cons r .nil) (.inl ⟨i, rfl, o.now sr (.int _)⟩)
  | bl b => cases ra; exact call_int1 pins s σ H [_] [u] Q I (.cons r .nil) (.inr ⟨b, rfl, o.now sr (.int _)⟩)
  | _ => exact o.elim
theorem biF_abs : CallR X (.builtin "abs") (rVn X.K (biF .abs)) := biF_one (fun _ _ _ => rfl) fun pins s σ H x u Q I r h => by
  obtain ⟨loc, S, a, sr, ra, o⟩ := h
  cases a with
  | int i => cases ra; exact call_abs pins s σ H [_] [u] Q I (.cons r .nil) ⟨i, rfl, o.now sr (.int _)⟩
  | _ => exact o.elim
theorem biF_max2 (hc : X.calm = true) : CallR X (.builtin "max") (rVn X.K (biF .max2)) := biF_two (fun _ _ => rfl) fun pins s σ H x y u w Q I r r' h => by
  obtain ⟨loc, S, a, c, sr, ra, rc, o⟩ := h
  cases a with
  | int i => cases c with
    | int j => cases ra; cases rc; exact call_max2 hc pins s σ H [_, _] [u, w] Q I (.cons r (.cons r' .nil)) ⟨i, j, rfl, o.now sr (.int _)⟩
    | _ => exact o.elim
  | _ => exact o.elim
theorem biF_min2 (hc : X.calm = true) : CallR X (.builtin "min") (rVn X.K (biF .min2)) := biF_two (fun _ _ => rfl) fun pins s σ H x y u w Q I r r' h => by
  obtain ⟨loc, S, a, c, sr, ra, rc, o⟩ := h
  cases a with
  | int i => cases c with
    | int j => cases ra; cases rc; exact call_min2 hc pins s σ H [_, _] [u, w] Q I (.cons r (.cons r' .nil)) ⟨i, j, rfl, o.now sr (.int _)⟩
    | _ => exact o.elim
  | _ => exact o.elim
theorem biF_len : CallR X (.builtin "len") (rVn X.K (biF .len)) := biF_one (fun _ _ _ => rfl) fun pins s σ H x u Q I r h => by
  obtain ⟨loc, S, a, sr, ra, o⟩ := h
  have seq : ∀ l, getS S a = some l → OutV X.K loc H (.ok (.int l.length) S) Q → wpAny (model X.prog X.w) X.A (call (.builtin "len") [u]) (EP X pins σ Q) X.xe s := fun l e o => by
    obtain ⟨p, xs, rfl, hq, rs⟩ := getS_at sr e ra
    exact call_len_seq pins s σ H [_] [u] Q I (.cons r .nil) ⟨p, xs, rfl, hq, by rw [← rs.length]; exact o.now sr (.int _)⟩
  cases a with
  | str z =>
    have o' : OutV X.K loc H (if z.length ≤ LINE then .ok (.int z.length) S else .no) Q := o
    by_cases hz : z.length ≤ LINE
    · rw [if_pos hz] at o'
      cases ra
      refine call_len_str pins s σ H [_] [u] Q I (.cons r .nil) ⟨_, rfl, by simpa [Str.length, ← LINE_eq] using hz, ?_⟩
      have e : ((⟨z.toArray⟩ : Str).length : Int) = (z.length : Int) := by simp [Str.length]
      rw [e]
      exact o'.now sr (.int _)
    · rw [if_neg hz] at o'; exact o'.elim
  | ref n =>
    have o' : OutV X.K loc H (match S[n]? with
      | some (.lst l) => .ok (.int l.length) S
      | some (.dic l) => .ok (.int l.length) S
      | _ => .no) Q := o
    cases q : S[n]? with
    | none => rw [q] at o'; exact o'.elim
    | some ob =>
      rw [q] at o'
      cases ob with
      | dead => exact o'.elim
      | lst l => exact seq l (by show (match S[n]? with | some (.lst l) => some l | _ => none) = some l; rw [q]) o'
      | dic kvs =>
        obtain ⟨b, xs, h1, hq, rs⟩ := sr.dic q
        cases ra with
        | ref hn hr =>
          obtain rfl := hr b h1
          exact call_lenD pins s σ H [_] [u] Q I (.cons r .nil) ⟨b, xs, rfl, hq, by rw [← rs.length]; exact o'.now sr (.int _)⟩
  | tup l => exact seq l rfl o
  | lst l => exact seq l rfl o
  | scr l => exact seq l rfl o
  | _ => exact o.elim
theorem biF_list {m : Bool} : CallR X (.type "list") (rVn X.K (biF (.list m))) := biF_one (fun _ _ _ => rfl) fun pins s σ H x u Q I r h => by
  obtain ⟨loc, S, a, sr, ra, o⟩ := h
  have o' : OutV X.K loc H (match getS S a with | some l => mkL m l S | none => .no) Q := o
  cases e : getS S a with
  | none => rw [e] at o'; exact o'.elim
  | some l =>
    rw [e] at o'
    obtain ⟨p, xs, rfl, hq, rs⟩ := getS_at sr e ra
    exact call_list_of pins s σ H [_] [u] Q I (.cons r .nil) ⟨p, xs, rfl, hq, fun q hq => o'.newL sr rs hq⟩
theorem biF_tuple : CallR X (.type "tuple") (rVn X.K (biF .tuple)) := biF_one (fun _ _ _ => rfl) fun pins s σ H x u Q I r h => by
  obtain ⟨loc, S, a, sr, ra, o⟩ := h
  have lists : ∀ l, getL S a = some l → OutV X.K loc H (.ok (.tup l) S) Q → wpAny (model X.prog X.w) X.A (call (.type "tuple") [u]) (EP X pins σ Q) X.xe s := fun l e o => by
    obtain ⟨p, xs, rfl, hq, rs⟩ := getL_at sr e ra
    exact call_tuple_of pins s σ H [_] [u] Q I (.cons r .nil) ⟨p, xs, rfl, .inl ⟨SqL.of hq, fun q hq => o.newTup sr rs hq⟩⟩
  cases a with
  | tup l =>
    obtain ⟨p, xs, rfl, hq, rs⟩ := ra.tupAt
    exact call_tuple_of pins s σ H [_] [u] Q I (.cons r .nil) ⟨p, xs, rfl, .inr ⟨hq, OutV.now o sr ra⟩⟩
  | lst l => exact lists l rfl o
  | ref n =>
    have o' : OutV X.K loc H (match getL S (.ref n) with | some l => .ok (.tup l) S | none => .no) Q := o
    cases e : getL S (.ref n) with
    | none => rw [e] at o'; exact o'.elim
    | some l => rw [e] at o'; exact lists l e o'
  | _ => exact o.elim
theorem allB_at {K : PySem.W.Frag} {H : Hp} {loc : Loc} : ∀ {l : List D} {xs : List V} {b : Bool}, RelDs K H loc l xs → allB l = some b → ∃ bs : List Bool, xs = bs.map V.bl ∧ bs.all id = b
  | [], _, b, .nil, e => by cases e; exact ⟨[], rfl, rfl⟩
  | .bl c :: t, _, b, .cons r rt, e => by
    have e' : (allB t).map (c && ·) = some b := e
    cases q : allB t with
    | none => rw [q] at e'; cases e'
    | some b' =>
      rw [q] at e'
      cases e'
      obtain ⟨bs, h1, h2⟩ := allB_at rt q
      cases r
      exact ⟨c :: bs, by rw [h1]; rfl, by rw [List.all_cons, h2]; rfl⟩
  | .non :: _, _, _, _, e => by cases e
  | .int _ :: _, _, _, _, e => by cases e
  | .str _ :: _, _, _, _, e => by cases e
  | .tup _ :: _, _, _, _, e => by cases e
  | .lst _ :: _, _, _, _, e => by cases e
  | .ref _ :: _, _, _, _, e => by cases e
  | .scr _ :: _, _, _, _, e => by cases e
theorem anyB_at {K : PySem.W.Frag} {H : Hp} {loc : Loc} : ∀ {l : List D} {xs : List V} {b : Bool}, RelDs K H loc l xs → anyB l = some b → ∃ bs : List Bool, xs = bs.map V.bl ∧ bs.any id = b
  | [], _, b, .nil, e => by cases e; exact ⟨[], rfl, rfl⟩
  | .bl c :: t, _, b, .cons r rt, e => by
    have e' : (anyB t).map (c || ·) = some b := e
    cases q : anyB t with
    | none => rw [q] at e'; cases e'
    | some b' =>
      rw [q] at e'
      cases e'
      obtain ⟨bs, h1, h2⟩ := anyB_at rt q
      cases r
      exact ⟨c :: bs, by rw [h1]; rfl, by rw [List.any_cons, h2]; rfl⟩
  | .non :: _, _, _, _, e => by cases e
  | .int _ :: _, _, _, _, e => by cases e
  | .str _ :: _, _, _, _, e => by cases e
  | .tup _ :: _, _, _, _, e => by cases e
  | .lst _ :: _, _, _, _, e => by cases e
  | .ref _ :: _, _, _, _, e => by cases e
  | .scr _ :: _, _, _, _, e => by cases e
theorem biF_all (hc : X.calm = true) : CallR X (.builtin "all") (rVn X.K (biF .all)) := biF_one (fun _ _ _ => rfl) fun pins s σ H x u Q I r h => by
  obtain ⟨loc, S, a, sr, ra, o⟩ := h
  have o' : OutV X.K loc H (match getL S a with | some l => (match allB l with | some b => .ok (.bl b) S | none => .no) | none => .no) Q := o
  cases e : getL S a with
  | none => rw [e] at o'; exact o'.elim
  | some l =>
    rw [e] at o'
    cases e2 : allB l with
    | none => simp only [e2] at o'; exact o'.elim
    | some b =>
      simp only [e2] at o'
      obtain ⟨p, xs, rfl, hq, rs⟩ := getL_at sr e ra
      obtain ⟨bs, rfl, rfl⟩ := allB_at rs e2
      exact cr_all hc pins s σ H [_] [u] Q I (.cons r .nil) ⟨p, bs, rfl, SqL.of hq, OutV.now o' sr (.bl _)⟩
theorem biF_any (hc : X.calm = true) : CallR X (.builtin "any") (rVn X.K (biF .any)) := biF_one (fun _ _ _ => rfl) fun pins s σ H x u Q I r h => by
  obtain ⟨loc, S, a, sr, ra, o⟩ := h
  have o' : OutV X.K loc H (match getL S a with | some l => (match anyB l with | some b => .ok (.bl b) S | none => .no) | none => .no) Q := o
  cases e : getL S a with
  | none => rw [e] at o'; exact o'.elim
  | some l =>
    rw [e] at o'
    cases e2 : anyB l with
    | none => simp only [e2] at o'; exact o'.elim
    | some b =>
      simp only [e2] at o'
      obtain ⟨p, xs, rfl, hq, rs⟩ := getL_at sr e ra
      obtain ⟨bs, rfl, rfl⟩ := anyB_at rs e2
      exact cr_any hc pins s σ H [_] [u] Q I (.cons r .nil) ⟨p, bs, rfl, SqL.of hq, OutV.now o' sr (.bl _)⟩
mutual
theorem toPy_noDict : ∀ d : D, (toPy d).hasDict = false
  | .non => rfl
  | .bl _ => rfl
  | .int _ => rfl
  | .str _ => rfl
  | .tup l => by
    show (PyData.tuple (toPys l)).hasDict = false
    rw [PyData.hasDict]; exact toPys_noDict l
  | .lst l => by
    show (PyData.list (toPys l)).hasDict = false
    rw [PyData.hasDict]; exact toPys_noDict l
  | .ref _ => rfl
  | .scr _ => rfl
theorem toPys_noDict : ∀ l : List D, PyData.hasDictAll (toPys l) = false
  | [] => rfl
  | x :: xs => by
    show PyData.hasDictAll (toPy x :: toPys xs) = false
    rw [PyData.hasDictAll, toPy_noDict x, toPys_noDict xs] <;> rfl
end
theorem shown_str (d : D) : (⟨(shownD d).toArray⟩ : Str) = (toPy d).shown := by
  unfold shownD
  simp
theorem biF_repr (hu : X.A.units + 64 < cLine) (hg : X.A.guards = some []) : CallR X (.builtin "repr") (rVn X.K (biF .repr)) := biF_one (fun _ _ _ => rfl) fun pins s σ H x u Q I r h => by
  obtain ⟨loc, S, a, sr, ra, o⟩ := h
  have o' : OutV X.K loc H (if (okD (der S a) && (toPy (der S a)).showable && decide ((shownD (der S a)).length ≤ LINE)) = true then .ok (.str (shownD (der S a))) S else .no) Q := o
  by_cases hc : (okD (der S a) && (toPy (der S a)).showable && decide ((shownD (der S a)).length ≤ LINE)) = true
  · rw [if_pos hc] at o'
    rw [Bool.and_eq_true, Bool.and_eq_true] at hc
    obtain ⟨⟨h1, h2⟩, h3⟩ := hc
    have hz : (toPy (der S a)).shown.length ≤ sizeLine := by
      have := of_decide_eq_true h3
      rw [LINE_eq] at this
      rw [← shown_str]
      simpa [Str.length] using this
    have q : Q (.str (toPy (der S a)).shown) H := by
      rw [← shown_str]
      exact o'.now sr (.str _)
    have dp := der_dp sr ra (okD_cl h1)
    obtain ⟨as, rd⟩ := Dp.reads I _ x u dp r
    generalize hd : toPy (der S a) = pd at *
    cases dp with
    | non => cases r; exact PySem.P.repr_of_none ⟨.str _, H, I.tok _, ⟨_, rfl⟩, q⟩
    | bl b => cases r; exact PySem.P.repr_of_bool ⟨.str _, H, I.tok _, ⟨_, by cases b <;> rfl⟩, q⟩
    | int i => obtain ⟨t, rfl⟩ := r; exact PySem.P.repr_of_int (by simpa [PyData.showable] using h2) ⟨.str _, H, I.tok _, ⟨_, rfl⟩, q⟩
    | str z => obtain ⟨t, rfl⟩ := r; exact PySem.P.repr_of_str ⟨.str _, H, I.tok _, ⟨_, rfl⟩, q⟩ hz
    | lst hq hs =>
      cases r
      exact repr_of_reads' rd h2 (fun z => by rw [← hd, toPy_noDict] at z; cases z) hg (by rw [← hd, toPy_depth]; have := okD_dep h1; omega) (fun _ _ e => e)
        (fun h' u tk hk => ⟨.str _, H, I.kept hk, ⟨_, rfl⟩, q⟩) hz
    | tup hq hs =>
      cases r
      exact repr_of_reads' rd h2 (fun z => by rw [← hd, toPy_noDict] at z; cases z) hg (by rw [← hd, toPy_depth]; have := okD_dep h1; omega) (fun _ _ e => e)
        (fun h' u tk hk => ⟨.str _, H, I.kept hk, ⟨_, rfl⟩, q⟩) hz
  · rw [if_neg hc] at o'; exact o'.elim
end
end Pf

set_option linter.all false
set_option Elab.async false
set_option maxRecDepth 100000
set_option autoImplicit false
namespace Pf
open PySem PySem.Spec PyProof.Rows L2
section
variable {X : Cx}
theorem mthF_append : MtR X "list.append" (rVm X.K (mthF .append)) := by
  intro pins s σ H x xs v us Q I rx rs h
  obtain ⟨loc, S, x', xs', sr, r1, r2, o⟩ := h
  cases x' with
  | ref n =>
    match xs', r2, o with
    | [], _, o => exact o.elim
    | [y'], r2, o =>
      have o' : OutV X.K loc H (match S[n]? with
        | some (.lst l) => if l.length < LINE ∧ below n y' = true then .ok .non (S.set n (.lst (l ++ [y']))) else .no
        | _ => .no) Q := o
      cases q : S[n]? with
      | none => rw [q] at o'; exact o'.elim
      | some ob =>
        rw [q] at o'
        cases ob with
        | lst l =>
          by_cases hz : l.length < LINE ∧ below n y' = true
          · simp only [hz, and_self, if_true] at o'
            obtain ⟨a, ys, h1, hq, ra⟩ := sr.lst q
            obtain ⟨y, rfl, ry⟩ := rel1 r2
            cases r1 with
            | ref hn hr =>
              obtain rfl := hr a h1
              have le : Le loc H loc (upd H a (.lst (ys ++ [y]))) := Le.write sr (List.mem_of_getElem? h1)
              exact mt_append pins s σ H _ _ v us Q I rx rs ⟨a, ys, y, rfl, rfl, hq, by rw [← ra.length, ← LINE_eq]; exact hz.1, o' loc _ _ le (sr.write h1 (.lst upd_same ((ra.append (.cons ry .nil)).mono le)) (by show belows n (l ++ [y']) = true; rw [belows_append, show belows n l = true from sr.wf n _ q]; show (true && (below n y' && true)) = true; rw [hz.2] <;> rfl)) .non⟩
          · simp only [hz, if_false] at o'; exact o'.elim
        | _ => exact o'.elim
    | _ :: _ :: _, _, o => exact o.elim
  | _ => exact o.elim
theorem mthF_extend : MtR X "list.extend" (rVm X.K (mthF .extend)) := by
  intro pins s σ H x xs v us Q I rx rs h
  obtain ⟨loc, S, x', xs', sr, r1, r2, o⟩ := h
  cases x' with
  | ref n =>
    match xs', r2, o with
    | [], _, o => exact o.elim
    | [y'], r2, o =>
      have o' : OutV X.K loc H (match S[n]?, getL S y' with
        | some (.lst l), some r => if l.length + r.length ≤ LINE ∧ belows n r = true then .ok .non (S.set n (.lst (l ++ r))) else .no
        | _, _ => .no) Q := o
      cases q : S[n]? with
      | none => rw [q] at o'; exact o'.elim
      | some ob =>
        rw [q] at o'
        cases ob with
        | lst l =>
          cases e : getL S y' with
          | none => rw [e] at o'; exact o'.elim
          | some r =>
            rw [e] at o'
            by_cases hz : l.length + r.length ≤ LINE ∧ belows n r = true
            · simp only [hz, and_self, if_true] at o'
              obtain ⟨a, ys, h1, hq, ra⟩ := sr.lst q
              obtain ⟨y, rfl, ry⟩ := rel1 r2
              obtain ⟨b, zs, rfl, hb, rb⟩ := getL_at sr e ry
              cases r1 with
              | ref hn hr =>
                obtain rfl := hr a h1
                have le : Le loc H loc (upd H a (.lst (ys ++ zs))) := Le.write sr (List.mem_of_getElem? h1)
                exact mt_extend pins s σ H _ _ v us Q I rx rs ⟨a, b, ys, zs, rfl, rfl, hq, hb, by rw [← ra.length, ← rb.length, ← LINE_eq]; exact hz.1, o' loc _ _ le (sr.write h1 (.lst upd_same ((ra.append rb).mono le)) (by show belows n (l ++ r) = true; rw [belows_append, show belows n l = true from sr.wf n _ q, hz.2] <;> rfl)) .non⟩
            · simp only [hz, if_false] at o'; exact o'.elim
        | _ => exact o'.elim
    | _ :: _ :: _, _, o => exact o.elim
  | _ => exact o.elim
theorem mthF_pop : MtR X "list.pop" (rVm X.K (mthF .pop)) := by
  intro pins s σ H x xs v us Q I rx rs h
  obtain ⟨loc, S, x', xs', sr, r1, r2, o⟩ := h
  cases x' with
  | ref n =>
    match xs', r2, o with
    | [], r2, o =>
      have o' : OutV X.K loc H (match S[n]? with
        | some (.lst l) => match l[l.length - 1]? with
          | some x => .ok x (S.set n (.lst l.dropLast))
          | none => .no
        | _ => .no) Q := o
      cases q : S[n]? with
      | none => rw [q] at o'; exact o'.elim
      | some ob =>
        rw [q] at o'
        cases ob with
        | lst l =>
          cases e : l[l.length - 1]? with
          | none => simp only [e] at o'; exact o'.elim
          | some y' =>
            simp only [e] at o'
            obtain ⟨a, ys, h1, hq, ra⟩ := sr.lst q
            obtain ⟨y, hy, ry⟩ := ra.get e
            cases r2
            cases r1 with
            | ref hn hr =>
              obtain rfl := hr a h1
              have le : Le loc H loc (upd H a (.lst ys.dropLast)) := Le.write sr (List.mem_of_getElem? h1)
              exact mt_pop pins s σ H _ _ v us Q I rx rs ⟨a, ys, y, rfl, rfl, hq, by rw [← ra.length]; exact hy, OutV.later' o' le (sr.write h1 (.lst upd_same (ra.dropLast.mono le)) (belows_mem.mpr fun x hx => belows_mem.mp (show belows n l = true from sr.wf n _ q) x ((List.dropLast_sublist l).subset hx))) (ry.mono le)⟩
        | _ => exact o'.elim
    | _ :: _, _, o => exact o.elim
  | _ => exact o.elim
/-! ### isinstance -/
def tyName : Ty → String
  | .int => "int"
  | .bool => "bool"
  | .str => "str"
  | .tuple => "tuple"
  | .list => "list"
def kdName : Kd → String
  | .none => "NoneType"
  | .bool => "bool"
  | .int => "int"
  | .str => "str"
  | .tuple => "tuple"
  | .list => "list"
  | .dict => "dict"
theorem kit_all (K : PySem.W.Frag) (t : Ty) (c : Kd) : PySem.W.kitOne K (.type (kdName c)) (.type (tyName t)) = some (isK t c) := by
  cases c <;> cases t <;> exact kit_ty (by decide +kernel)
theorem kdD_at {K : PySem.W.Frag} {H : Hp} {loc : Loc} {S : Store} {a : D} {v : V} {c : Kd} (sr : StoreR K H loc S) (r : RelD K H loc a v) (e : kdD S a = some c) : TyX K H v (.type (kdName c)) := by
  cases a with
  | non => cases e; cases r; exact .base .non
  | bl b => cases e; cases r; exact .base (.bl b)
  | int b => cases e; cases r; exact .base (.int b)
  | str b => cases e; cases r; exact .base (.str _)
  | tup l =>
    cases e
    cases r with
    | tup f _ =>
      rcases f.1 with h | ⟨o, h⟩
      · exact .base (.tup h)
      · exact .fTuple h
    | tupK k _ =>
      obtain ⟨o, its, n, h1, h2, _⟩ := k
      exact .kTuple h1 h2
  | lst l =>
    cases e
    cases r with
    | lst h _ _ => exact .base (.lst h)
  | ref n =>
    have e' : (match S[n]? with
      | some (.lst _) => some Kd.list
      | some (.dic _) => some Kd.dict
      | _ => none) = some c := e
    cases r with
    | ref hn hr =>
      cases q : S[n]? with
      | none => rw [q] at e'; cases e'
      | some ob =>
        rw [q] at e'
        cases ob with
        | dead => cases e'
        | lst l =>
          cases e'
          obtain ⟨a, xs, h1, h2, _⟩ := sr.lst q
          rw [hr a h1]
          exact .base (.lst h2)
        | dic l =>
          cases e'
          obtain ⟨a, xs, h1, h2, _⟩ := sr.dic q
          rw [hr a h1]
          exact .base (.dK h2)
  | scr l => cases e
def rIsT (K : PySem.W.Frag) (t : Ty) : List V → Hp → VK → Prop := fun xs H Q => ∃ loc S x x', xs = [x, .ty (tyName t)] ∧ StoreR K H loc S ∧ RelD K H loc x' x ∧ OutV K loc H (isiF t x' S) Q
theorem isiF_ok (t : Ty) : CallR X (.builtin "isinstance") (rIsT X.K t) := by
  intro pins s σ H xs us Q I r h
  obtain ⟨loc, S, x, x', rfl, sr, rx, o⟩ := h
  unfold isiF at o
  cases e : kdD S x' with
  | none => rw [e] at o; exact o.elim
  | some c =>
    rw [e] at o
    exact call_isi pins s σ H _ us Q I r ⟨x, _, _, _, isK t c, rfl, .ty _, kdD_at sr rx e, kit_all X.K t c, OutV.now o sr (.bl _)⟩
end
end Pf

set_option linter.all false
set_option Elab.async false
set_option maxRecDepth 100000
set_option autoImplicit false
namespace Pf
open PySem PySem.Spec PyProof.Rows L2
section
variable {X : Cx}
theorem opF_mul : OpR X (binaryOp .Mult) (rV2 X.K (opF .mul)) := by
  intro pins s σ H x y v u Q I rx ry h
  obtain ⟨loc, S, x', y', sr, r1, r2, o⟩ := h
  have lists : ∀ k : Int, y' = .int k → OutV X.K loc H (match getL S x' with
      | some xs => if xs.length * k.toNat ≤ LINE ∧ k < 2 ^ 60 ∧ -(2 ^ 60) < k then .ok (.lst (List.replicate k.toNat xs).flatten) S else .no
      | none => .no) Q → wpAny (model X.prog X.w) X.A (binaryOp .Mult v u) (EP X pins σ Q) X.xe s := fun k hk o2 => by
    clear o
    have o := o2
    subst hk
    cases r2
    cases e1 : getL S x' with
    | none => rw [e1] at o; exact o.elim
    | some l1 =>
      rw [e1] at o
      obtain ⟨a, xs, rfl, ha, ra⟩ := getL_at sr e1 r1
      by_cases hz : l1.length * k.toNat ≤ LINE ∧ k < 2 ^ 60 ∧ -(2 ^ 60) < k
      · simp only [hz, and_self, if_true] at o
        exact op_rep pins s σ H _ _ v u Q I rx ry ⟨a, k, xs, rfl, rfl, ha, by omega, by omega, by rw [← ra.length, ← LINE_eq]; exact hz.1, fun p hp => o.newLst sr (ra.rep _) hp⟩
      · simp only [hz, if_false] at o; exact o.elim
  cases y' with
  | int k =>
    cases x' with
    | int i =>
      cases r1; cases r2
      have o' : OutV X.K loc H (if mulOk i k then .ok (.int (i * k)) S else .no) Q := o
      by_cases hm : mulOk i k = true
      · simp only [hm, if_true] at o'
        exact op_mulA pins s σ H _ _ v u Q I rx ry ⟨i, k, rfl, rfl, hm, o'.now sr (.int _)⟩
      · simp only [hm] at o'; exact o'.elim
    | tup l1 =>
      cases r2
      obtain ⟨a, xs, rfl, ha, ra⟩ := r1.tupAt
      have o' : OutV X.K loc H (if l1.isEmpty = false ∧ 2 ≤ k ∧ k ≤ 1000 ∧ l1.length ≤ 1000 then .ok (.tup (List.replicate k.toNat l1).flatten) S else .no) Q := o
      by_cases hz : l1.isEmpty = false ∧ 2 ≤ k ∧ k ≤ 1000 ∧ l1.length ≤ 1000
      · simp only [hz, and_self, if_true] at o'
        refine op_repT pins s σ H _ _ v u Q I rx ry ⟨a, k, xs, rfl, rfl, ha, ?_, hz.2.1, hz.2.2.1, by rw [← ra.length]; exact hz.2.2.2, fun p hp => o'.newTup sr (ra.rep _) hp⟩
        rintro rfl
        cases ra
        exact absurd hz.1 (by decide)
      · simp only [hz, if_false] at o'; exact o'.elim
    | _ => exact lists k rfl o
  | _ =>
    exfalso
    cases x' <;> exact o
theorem opL_add : OpR X (binaryOp .Add) (rV2 X.K (opL .add)) := by
  intro pins s σ H x y v u Q I rx ry h
  obtain ⟨loc, S, x', y', sr, r1, r2, o⟩ := h
  have o : OutV X.K loc H (match getL S x', getL S y' with
      | some xs, some ys => if xs.length + ys.length ≤ LINE then alloc (.lst (xs ++ ys)) S else .no
      | _, _ => .no) Q := o
  cases e1 : getL S x' with
  | none => rw [e1] at o; exact o.elim
  | some l1 =>
    cases e2 : getL S y' with
    | none => rw [e1, e2] at o; exact o.elim
    | some l2 =>
      rw [e1, e2] at o
      obtain ⟨a, xs, rfl, ha, ra⟩ := getL_at sr e1 r1
      obtain ⟨b, ys, rfl, hb, rb⟩ := getL_at sr e2 r2
      by_cases hz : l1.length + l2.length ≤ LINE
      · simp only [hz, if_true] at o
        exact op_cat pins s σ H _ _ v u Q I rx ry ⟨a, b, xs, ys, rfl, rfl, ha, hb, by rw [← ra.length, ← rb.length, ← LINE_eq]; exact hz, fun p hp => OutV.newL (m := true) o sr (ra.append rb) hp⟩
      · simp only [hz, if_false] at o; exact o.elim
theorem opL_mul : OpR X (binaryOp .Mult) (rV2 X.K (opL .mul)) := by
  intro pins s σ H x y v u Q I rx ry h
  obtain ⟨loc, S, x', y', sr, r1, r2, o⟩ := h
  unfold opL at o
  simp only at o
  cases e1 : getL S x' with
  | none => rw [e1] at o; exact o.elim
  | some l1 =>
    rw [e1] at o
    cases y' with
    | int k =>
      cases r2
      obtain ⟨a, xs, rfl, ha, ra⟩ := getL_at sr e1 r1
      by_cases hz : l1.length * k.toNat ≤ LINE ∧ k < 2 ^ 60 ∧ -(2 ^ 60) < k
      · simp only [hz, and_self, if_true] at o
        exact op_rep pins s σ H _ _ v u Q I rx ry ⟨a, k, xs, rfl, rfl, ha, by omega, by omega, by rw [← ra.length, ← LINE_eq]; exact hz.1, fun p hp => OutV.newL (m := true) o sr (ra.rep _) hp⟩
      · simp only [hz, if_false] at o; exact o.elim
    | _ => exact o.elim
end
end Pf

set_option linter.all false
set_option Elab.async false
set_option maxRecDepth 100000
set_option autoImplicit false
/-! PfExp: expressions -/
namespace Pf
open PySem PySem.Spec PyProof.Rows L2

abbrev RD (K : PySem.W.Frag) : Loc → Hp → D → V → Prop := fun loc H d v => RelD K H loc d v
abbrev RDs (K : PySem.W.Frag) : Loc → Hp → List D → List V → Prop := fun loc H d v => RelDs K H loc d v
abbrev RB : Loc → Hp → Bool → Bool → Prop := fun _ _ a b => a = b

/-- a def of the module as the evaluator's function -/
structure FnG (P : Program) (w : World) (K : PySem.W.Frag) (mg : Str → Option Value) (base : Heap) (C : Clss) (k : Nat) (a : Addr) (fd : FuncData) (ps : List Str) (cf : List D → M D) : Prop where
  run : ∀ (A : Around) (outer : List Env) (s : Shared) (H : Hp) (args : Args) (us : List Value) (vs : List V) (loc : Loc) (S : Store) (as : List D) (Q : VK) (E : XK), Room k A → A.guards = some [] → Env0 P w K mg base A outer s H →
    BindsTo s fd args (ps.zip us) → Vals vs us → StoreR K H loc S → RelDs K H loc as vs → as.length = ps.length → Out K C E (RD K) loc H (cf as S) Q →
    codeAny (model P w) A (.call (.ref a) args) (CR (CX P w) outer P w H s Q E) s
/-- the name x of the module is such a def -/
structure FnAt (P : Program) (w : World) (K : PySem.W.Frag) (mg : Str → Option Value) (base : Heap) (C : Clss) (k : Nat) (x : Str) (cf : List D → M D) : Prop where
  at_ : ∃ a fd ps, mg x = some (.ref a) ∧ PySem.W.keepIn K (.ref a) = true ∧ Binds K fd ps [] ∧ FnG P w K mg base C k a fd ps cf ∧ ∀ as S, cf as S ≠ .no → as.length = ps.length

/-- what is known of a def's text: names by slot, its scope, the defs by their numbers -/
structure Gm where
  cl : Nat → List D → M D
  C : Clss
  k : Nat
  N : List Str
  sc : Scope
  fn : List (Str × Nat)
  con : List (Str × D)
  bi : List Str
  fc : Str → Bool
structure CxOk (G : Gm) (W : WX) (X : Cx) : Prop where
  hN : X.N = G.N
  nd : G.N.Nodup
  hsc : X.env.scope = G.sc
  calm : X.calm = true
  room : Room G.k X.A
  guards : X.A.guards = some []
  takes : Takes X W
  fns : ∀ p ∈ G.fn, FnAt X.prog X.w X.K X.mg X.base G.C G.k p.1 (G.cl p.2)
  cons : ∀ p ∈ G.con, ∃ u v, X.mg p.1 = some u ∧ RelV v u ∧ ∀ H loc, RelD X.K H loc p.2 v
  bis : ∀ x ∈ G.bi, X.mg x = none
  hfc : X.fn = G.fc
theorem CxOk.un {G : Gm} {W : WX} {X : Cx} (c : CxOk G W X) : X.A.units + 64 < cLine := c.room.units

def rdE (X : Cx) (G : Gm) (W : WX) (e : E) : TE := fun σ H Q => ∃ ρ S loc, EnvR X.K H loc ρ σ ∧ StoreR X.K H loc S ∧ Out X.K G.C (fun c d H' => W c d σ H') (RD X.K) loc H (ev G.cl e ρ S) Q
def rdT (X : Cx) (G : Gm) (W : WX) (e : E) : TT := fun σ H Q => ∃ ρ S loc, EnvR X.K H loc ρ σ ∧ StoreR X.K H loc S ∧ Out X.K G.C (fun c d H' => W c d σ H') RB loc H (test (ev G.cl e ρ) S) Q
def rdA (X : Cx) (G : Gm) (W : WX) (es : Es) : TA := fun σ H Q => ∃ ρ S loc, EnvR X.K H loc ρ σ ∧ StoreR X.K H loc S ∧ Out X.K G.C (fun c d H' => W c d σ H') (RDs X.K) loc H (evs G.cl es ρ S) Q

/-- how an expression's text is plain -/
structure Plain (pe : Expr) : Prop where
  star : ∀ es env, starEach (pe :: es) env = (false, eval pe env) :: starEach es env
  ix : ∀ o i, subscripted pe false o i = operate [o, i] (getItem o i)
  base : ∀ f env, attributeBase pe f env (eval pe env) = eval pe env
  fold : ∀ env x, foldedSetIterable pe env x = pure x
  mark : ∀ op, behindInMarks op pe = false
/-- .. and no comprehension -/
def NoComp (pe : Expr) : Prop := ∀ t l env, swapsWith pe t l env = pure false
structure SE (G : Gm) (pe : Expr) (e : E) : Prop where
  hv : ∀ X W, CxOk G W X → PE X pe (rdE X G W e)
  ht : ∀ X W, CxOk G W X → PT X pe (rdT X G W e)
  pl : Plain pe
/-- no star in it -/
def NoStar (es : List Expr) : Prop := ∀ env pos, (backTo pos (starEach es env)).any (·.1) = false
structure SA (G : Gm) (es : List Expr) (e : Es) : Prop where
  pa : ∀ X W, CxOk G W X → PA X es (rdA X G W e)

section
variable {X : Cx} {G : Gm} {W : WX}
/-- as a test, by its value -/
theorem pt_of {pe : Expr} {e : E} (h : PE X pe (rdE X G W e)) (he : ∀ whole, isTrue pe X.env whole = (do let v ← whole; standAt pe.pos; holding [v] (truthy v))) : PT X pe (rdT X G W e) := by
  refine ⟨fun pins s σ H Q I hw => ?_⟩
  obtain ⟨ρ, S, loc, er, sr, o⟩ := hw
  refine (pt_val h he).run pins s σ H Q I ⟨ρ, S, loc, er, sr, ?_⟩
  refine Out.bind (rel := RD X.K) (f := fun x => ofO (truth x)) o fun d S' loc' H' v e' le sr' r o' => ?_
  cases r with
  | bl b => exact ⟨b, rfl, o' loc' H' b Le.refl sr' rfl⟩
  | _ => exact o'.elim
/-- the reading of two expressions in a row -/
theorem two {a b : E} {F : D → D → M D} {σ : L2.St} {H : Hp} {Q : VK} {ρ : Ev} {S : Store} {loc : Loc} {m : M D} (hm : m = (do let x ← ev G.cl a ρ; let y ← ev G.cl b ρ; F x y)) (er : EnvR X.K H loc ρ σ) (sr : StoreR X.K H loc S)
    (nx : ∀ x y S, ∀ c fs S', F x y S ≠ .exc c fs S') (o : Out X.K G.C (fun c d H' => W c d σ H') (RD X.K) loc H (m S) Q) : tOp (rV2 X.K F) (rdE X G W a) (rdE X G W b) σ H Q := by
  subst hm
  refine ⟨ρ, S, loc, er, sr, Out.bind o fun x S1 loc1 H1 vx e1 le1 sr1 rx o1 => ?_⟩
  refine ⟨ρ, S1, loc1, er.mono le1, sr1, Out.bind o1 fun y S2 loc2 H2 vy e2 le2 sr2 ry o2 => ?_⟩
  refine ⟨loc2, S2, x, y, sr2, rx.mono le2, ry, ?_⟩
  cases q : F x y S2 with
  | ok d S' => rw [q] at o2; exact o2
  | exc c fs S' => exact absurd q (nx _ _ _ _ _ _)
  | no => rw [q] at o2; exact o2.elim
theorem opF_nx (op : Op) : ∀ x y S, ∀ c fs S', opF op x y S ≠ .exc c fs S' := by
  intro x y S c fs S' h
  unfold opF at h
  repeat (split at h <;> try cases h)
theorem cmpF_nx (op : Cop) : ∀ x y S, ∀ c fs S', cmpF op x y S ≠ .exc c fs S' := by
  intro x y S c fs S' h
  unfold cmpF at h
  repeat (split at h <;> try cases h)
theorem idxF_nx : ∀ x y S, ∀ c fs S', idxF x y S ≠ .exc c fs S' := by
  intro x y S c fs S' h
  unfold idxF at h
  repeat (split at h <;> try cases h)
theorem pe_bin {op : Operator} {o : Op} {a b : Expr} {ea eb : E} {pos : Pos} (ho : OpR X (binaryOp op) (rV2 X.K (opF o))) (ha : PE X a (rdE X G W ea)) (hb : PE X b (rdE X G W eb)) : PE X (.BinOp a op b pos) (rdE X G W (.bin o ea eb)) :=
  ⟨fun pins s σ H Q I ⟨ρ, S, loc, er, sr, h⟩ => (pe_op ho ha hb).run pins s σ H Q I (two rfl er sr (opF_nx o) h)⟩
theorem pe_cmpD {op : CmpOp} {o : Cop} {a b : Expr} {ea eb : E} {pos : Pos} (ho : OpR X (compareOp op) (rV2 X.K (cmpF o))) (ha : PE X a (rdE X G W ea)) (hb : PE X b (rdE X G W eb)) (hm : behindInMarks op b = false) : PE X (.Compare a [op] [b] pos) (rdE X G W (.cmp o ea eb)) :=
  ⟨fun pins s σ H Q I ⟨ρ, S, loc, er, sr, h⟩ => (pe_cmpR ho ha hb hm).run pins s σ H Q I (two rfl er sr (cmpF_nx o) h)⟩
theorem pt_cmpD {op : CmpOp} {o : Cop} {a b : Expr} {ea eb : E} {pos : Pos} (ho : OpR X (compareOp op) (rV2 X.K (cmpF o))) (ha : PE X a (rdE X G W ea)) (hb : PE X b (rdE X G W eb)) (hm : behindInMarks op b = false) : PT X (.Compare a [op] [b] pos) (rdT X G W (.cmp o ea eb)) := by
  refine ⟨fun pins s σ H Q I ⟨ρ, S, loc, er, sr, h⟩ => (pt_cmpR ho ha hb hm).run pins s σ H Q I (two rfl er sr (cmpF_nx o) ?_)⟩
  refine Out.bind (rel := RD X.K) (f := fun x => ofO (truth x)) h fun d S' loc' H' v e' le sr' r o' => ?_
  cases r with
  | bl b => exact ⟨b, rfl, o' loc' H' b Le.refl sr' rfl⟩
  | _ => exact o'.elim
end
end Pf

set_option linter.all false
set_option Elab.async false
set_option maxRecDepth 100000
set_option autoImplicit false
namespace Pf
open PySem PySem.Spec PyProof.Rows L2
section
variable {G : Gm}
theorem Out.pure {α β : Type} {K : PySem.W.Frag} {C : Clss} {W : XW} {rel : Loc → Hp → α → β → Prop} {loc : Loc} {H : Hp} {a : α} {b : β} {S : Store} {Q : β → Hp → Prop} (h : Out K C W rel loc H ((pure a : M α) S) Q) (s : StoreR K H loc S) (r : rel loc H a b) : Q b H := h loc H b Le.refl s r
theorem plain_name {x : Str} {pos : Pos} : Plain (.Name x pos) := ⟨fun _ _ => rfl, fun _ _ => rfl, fun _ _ => rfl, fun _ _ => rfl, fun _ => rfl⟩
theorem se_val {pe : Expr} {e : E} (h : ∀ X W, CxOk G W X → PE X pe (rdE X G W e)) (he : ∀ env whole, isTrue pe env whole = (do let v ← whole; standAt pe.pos; holding [v] (truthy v))) (pl : Plain pe) : SE G pe e :=
  ⟨h, fun X W c => pt_of (h X W c) (he X.env), pl⟩
theorem se_var {i : Nat} {x : Str} {pos : Pos} (hN : G.N[i]? = some x) (hv : Vis G.sc x) (hd : (x == ("__debug__" : Str)) = false) (hcd : (x == ("__classdict__" : Str)) = false) : SE G (.Name x pos) (.var i) := by
  refine se_val (fun X W c => ⟨fun pins s σ H Q I ⟨ρ, S, loc, er, sr, o⟩ => ?_⟩) (fun _ _ => rfl) plain_name
  refine (pe_var (X := X) (by rw [c.hN]; exact hN) (by rw [c.hsc]; exact hv) hd hcd).run pins s σ H Q I ?_
  have o' : Out X.K G.C (fun c d H' => W c d σ H') (RD X.K) loc H ((match ρ[i]? with | some (some d) => (pure d : M D) | _ => no) S) Q := by
    have e : ev G.cl (.var i) ρ = (match ρ[i]? with | some (some d) => (pure d : M D) | _ => no) := by rw [ev] <;> rfl
    rw [← e]; exact o
  cases q : ρ[i]? with
  | none => rw [q] at o'; exact o'.elim
  | some z =>
    cases z with
    | none => rw [q] at o'; exact o'.elim
    | some d =>
      rw [q] at o'
      obtain ⟨v, h1, h2⟩ := er.2 i d q
      exact ⟨v, h1, o'.pure sr h2⟩
theorem con_out {X : Cx} {W : WX} {d : D} {v : V} {σ : L2.St} {H : Hp} {Q : VK} (r : ∀ loc, RelD X.K H loc d v) (h : rdE X G W (.con d) σ H Q) : Q v H := by
  obtain ⟨ρ, S, loc, er, sr, o⟩ := h
  have e : ev G.cl (.con d) ρ = (pure d : M D) := by rw [ev]
  rw [e] at o
  exact o.pure sr (r loc)
theorem plain_con {c : Const} {j : Nat} {pos : Pos} : Plain (.Constant c j pos) := ⟨fun _ _ => rfl, fun _ _ => rfl, fun _ _ => rfl, fun _ _ => rfl, fun _ => rfl⟩
theorem se_int {i : Int} {j : Nat} {pos : Pos} : SE G (.Constant (.int i) j pos) (.con (.int i)) :=
  se_val (fun X W c => ⟨fun pins s σ H Q I h => pe_int.run pins s σ H Q I (con_out (fun _ => .int i) h)⟩) (fun _ _ => rfl) plain_con
theorem se_bl {b : Bool} {j : Nat} {pos : Pos} : SE G (.Constant (.bool b) j pos) (.con (.bl b)) :=
  se_val (fun X W c => ⟨fun pins s σ H Q I h => pe_bl.run pins s σ H Q I (con_out (fun _ => .bl b) h)⟩) (fun _ _ => rfl) plain_con
theorem se_non {j : Nat} {pos : Pos} : SE G (.Constant .none j pos) (.con .non) :=
  se_val (fun X W c => ⟨fun pins s σ H Q I h => pe_non.run pins s σ H Q I (con_out (fun _ => .non) h)⟩) (fun _ _ => rfl) plain_con
theorem se_str {x : Str} {j : Nat} {pos : Pos} : SE G (.Constant (.str x) j pos) (.con (.str x.cps.toList)) :=
  se_val (fun X W c => ⟨fun pins s σ H Q I h => pe_str.run pins s σ H Q I (con_out (fun _ => by
    have e : x = ⟨x.cps.toList.toArray⟩ := by simp
    conv => rhs; rw [e]
    exact .str _) h)⟩) (fun _ _ => rfl) plain_con
theorem se_glob {x : Str} {d : D} {pos : Pos} (hc : (x, d) ∈ G.con) (hg : G.sc.names.lookup x = some .globalImplicit) (hd : (x == ("__debug__" : Str)) = false) : SE G (.Name x pos) (.con d) := by
  refine se_val (fun X W c => ⟨fun pins s σ H Q I h => ?_⟩) (fun _ _ => rfl) plain_name
  obtain ⟨u, v, h1, h2, h3⟩ := c.cons _ hc
  exact (pe_glob (X := X) (by show X.env.scope.names.lookup x = _; rw [c.hsc]; exact hg) h1 h2 hd).run pins s σ H Q I (con_out (fun loc => h3 H loc) h)

/-! ### operators -/
theorem se_bin {op : Operator} {o : Op} {a b : Expr} {ea eb : E} {pos : Pos} (ho : ∀ X : Cx, OpR X (binaryOp op) (rV2 X.K (opF o))) (ha : SE G a ea) (hb : SE G b eb) : SE G (.BinOp a op b pos) (.bin o ea eb) :=
  se_val (fun X W c => pe_bin (ho X) (ha.hv X W c) (hb.hv X W c)) (fun _ _ => rfl) ⟨fun _ _ => rfl, fun _ _ => rfl, fun _ _ => rfl, fun _ _ => rfl, fun _ => rfl⟩
theorem se_cmp {op : CmpOp} {o : Cop} {a b : Expr} {ea eb : E} {pos : Pos} (ho : ∀ X : Cx, X.A.units + 64 < cLine → OpR X (compareOp op) (rV2 X.K (cmpF o))) (ha : SE G a ea) (hb : SE G b eb) : SE G (.Compare a [op] [b] pos) (.cmp o ea eb) :=
  ⟨fun X W c => pe_cmpD (ho X c.un) (ha.hv X W c) (hb.hv X W c) (hb.pl.mark op), fun X W c => pt_cmpD (ho X c.un) (ha.hv X W c) (hb.hv X W c) (hb.pl.mark op),
    ⟨fun _ _ => rfl, fun _ _ => rfl, fun _ _ => rfl, fun _ _ => rfl, fun _ => rfl⟩⟩
theorem se_neg {a : Expr} {ea : E} {pos : Pos} (ha : SE G a ea) : SE G (.UnaryOp .USub a pos) (.neg ea) := by
  refine se_val (fun X W c => ⟨fun pins s σ H Q I ⟨ρ, S, loc, er, sr, o⟩ => ?_⟩) (fun _ _ => rfl) ⟨fun _ _ => rfl, fun _ _ => rfl, fun _ _ => rfl, fun _ _ => rfl, fun _ => rfl⟩
  refine (pe_un un_neg (ha.hv X W c)).run pins s σ H Q I ⟨ρ, S, loc, er, sr, ?_⟩
  rw [ev] at o
  refine Out.bind o fun d S' loc' H' v e' le sr' r o' => ?_
  cases r with
  | int i => exact ⟨i, rfl, o'.pure sr' (.int _)⟩
  | _ => exact o'.elim
/-- the rest of a test -/
theorem test_bind {α : Type} {m : M D} {f : Bool → M α} {S : Store} : (test m >>= f) S = (m >>= fun x => (ofO (truth x) >>= f)) S := by
  show M.bind (M.bind m fun x => ofO (truth x)) f S = M.bind m (fun x => M.bind (ofO (truth x)) f) S
  unfold M.bind
  cases m S <;> rfl
theorem plain_un {op : UnaryOp} {a : Expr} {pos : Pos} : Plain (.UnaryOp op a pos) := ⟨fun _ _ => rfl, fun _ _ => rfl, fun _ _ => rfl, fun _ _ => rfl, fun _ => rfl⟩
theorem plain_bool {op : BoolOp} {a : List Expr} {pos : Pos} : Plain (.BoolOp op a pos) := ⟨fun _ _ => rfl, fun _ _ => rfl, fun _ _ => rfl, fun _ _ => rfl, fun _ => rfl⟩
/-- a test's value -/
theorem test_at {X : Cx} {W : WX} {σ : L2.St} {H : Hp} {loc : Loc} {α β : Type} {rel : Loc → Hp → α → β → Prop} {m : M D} {f : Bool → M α} {S : Store} {Q : β → Hp → Prop} {Q' : VK} (o : Out X.K G.C (fun c d H' => W c d σ H') rel loc H ((test m >>= f) S) Q)
    (k : ∀ b S' loc' H', Le loc H loc' H' → StoreR X.K H' loc' S' → Out X.K G.C (fun c d H' => W c d σ H') rel loc' H' (f b S') Q → Q' (.bl b) H') : Out X.K G.C (fun c d H' => W c d σ H') (RD X.K) loc H (m S) Q' := by
  rw [test_bind] at o
  refine Out.bind o fun d S' loc' H' v e' le sr' r o' => ?_
  cases r with
  | bl b => exact k b S' loc' H' le sr' o'
  | _ => exact o'.elim
theorem se_not {a : Expr} {ea : E} {pos : Pos} (ha : SE G a ea) : SE G (.UnaryOp .Not a pos) (.not ea) := by
  refine ⟨fun X W c => ⟨fun pins s σ H Q I ⟨ρ, S, loc, er, sr, o⟩ => ?_⟩, fun X W c => ⟨fun pins s σ H Q I ⟨ρ, S, loc, er, sr, o⟩ => ?_⟩, plain_un⟩
  · refine (L2.pe_not (ha.hv X W c)).run pins s σ H Q I ⟨ρ, S, loc, er, sr, ?_⟩
    rw [ev] at o
    exact test_at o fun b S' loc' H' le sr' o' => ⟨b, rfl, o'.pure sr' (.bl _)⟩
  · refine (pt_not (ha.ht X W c)).run pins s σ H Q I ⟨ρ, S, loc, er, sr, ?_⟩
    have e : test (ev G.cl (.not ea) ρ) S = (test (ev G.cl ea ρ) >>= fun b => (pure (!b) : M Bool)) S := by
      rw [ev]
      show M.bind (M.bind (test (ev G.cl ea ρ)) fun b => pure (.bl (!b))) (fun x => ofO (truth x)) S = M.bind (test (ev G.cl ea ρ)) (fun b => pure (!b)) S
      unfold M.bind
      cases test (ev G.cl ea ρ) S <;> rfl
    rw [e] at o
    exact Out.bind o fun b S' loc' H' b' e' le sr' r o' => by cases r; exact o'.pure sr' rfl
/-! ### and, or -/
structure SB (G : Gm) (op : BoolOp) (es : List Expr) (e : E) : Prop where
  hv : ∀ X W, CxOk G W X → ∀ pos, PE X (.BoolOp op es pos) (rdE X G W e)
  hw : ∀ X W, CxOk G W X → ∀ pos, PW X (.BoolOp op es pos) (rdT X G W e)
theorem SB.se {op : BoolOp} {es : List Expr} {e : E} {pos : Pos} (h : SB G op es e) : SE G (.BoolOp op es pos) e :=
  ⟨fun X W c => h.hv X W c pos, fun X W c => (h.hw X W c pos).pt, plain_bool⟩
theorem sb_and1 {a : Expr} {e : E} (h : SE G a e) : SB G .And [a] e := ⟨fun X W c pos => pe_one (h.hv X W c), fun X W c pos => pw_and1 (h.ht X W c)⟩
theorem sb_or1 {a : Expr} {e : E} (h : SE G a e) : SB G .Or [a] e := ⟨fun X W c pos => pe_one (h.hv X W c), fun X W c pos => pw_or1 (h.ht X W c)⟩
theorem sb_and {a b : Expr} {r : List Expr} {ea eb : E} (ha : SE G a ea) (hb : SB G .And (b :: r) eb) : SB G .And (a :: b :: r) (.and ea eb) := by
  refine ⟨fun X W c pos => ⟨fun pins s σ H Q I ⟨ρ, S, loc, er, sr, o⟩ => ?_⟩, fun X W c pos => ⟨fun wh pins s σ H Q I ⟨ρ, S, loc, er, sr, o⟩ => ?_⟩⟩
  · refine (L2.pe_and (ha.hv X W c) (hb.hv X W c pos)).run pins s σ H Q I ⟨ρ, S, loc, er, sr, ?_⟩
    rw [ev] at o
    refine Out.bind o fun d S' loc' H' v e' le sr' r o' => ?_
    cases r with
    | bl b =>
      refine ⟨b, rfl, ?_⟩
      cases b with
      | true => exact ⟨ρ, S', loc', er.mono le, sr', o'⟩
      | false => exact Out.pure o' sr' (.bl _)
    | _ => exact o'.elim
  · refine (pw_and (ha.ht X W c) (hb.hw X W c pos)).run wh pins s σ H Q I ⟨ρ, S, loc, er, sr, ?_⟩
    have e : test (ev G.cl (.and ea eb) ρ) S = (test (ev G.cl ea ρ) >>= fun b => if b then test (ev G.cl eb ρ) else (pure false : M Bool)) S := by
      rw [ev, test_bind]
      show M.bind (M.bind (ev G.cl ea ρ) _) _ S = M.bind (ev G.cl ea ρ) _ S
      unfold M.bind
      cases q : ev G.cl ea ρ S with
      | ok d S' => cases d with
        | bl b => cases b <;> rfl
        | _ => rfl
      | _ => rfl
    rw [e] at o
    refine Out.bind o fun b S' loc' H' b' e' le sr' r o' => ?_
    cases r
    cases b with
    | true => exact ⟨ρ, S', loc', er.mono le, sr', o'⟩
    | false => exact o'.pure sr' rfl
theorem sb_or {a b : Expr} {r : List Expr} {ea eb : E} (ha : SE G a ea) (hb : SB G .Or (b :: r) eb) : SB G .Or (a :: b :: r) (.or ea eb) := by
  refine ⟨fun X W c pos => ⟨fun pins s σ H Q I ⟨ρ, S, loc, er, sr, o⟩ => ?_⟩, fun X W c pos => ⟨fun wh pins s σ H Q I ⟨ρ, S, loc, er, sr, o⟩ => ?_⟩⟩
  · refine (L2.pe_or (ha.hv X W c) (hb.hv X W c pos)).run pins s σ H Q I ⟨ρ, S, loc, er, sr, ?_⟩
    rw [ev] at o
    refine Out.bind o fun d S' loc' H' v e' le sr' r o' => ?_
    cases r with
    | bl b =>
      refine ⟨b, rfl, ?_⟩
      cases b with
      | false => exact ⟨ρ, S', loc', er.mono le, sr', o'⟩
      | true => exact Out.pure o' sr' (.bl _)
    | _ => exact o'.elim
  · refine (pw_or (ha.ht X W c) (hb.hw X W c pos)).run wh pins s σ H Q I ⟨ρ, S, loc, er, sr, ?_⟩
    have e : test (ev G.cl (.or ea eb) ρ) S = (test (ev G.cl ea ρ) >>= fun b => if b then (pure true : M Bool) else test (ev G.cl eb ρ)) S := by
      rw [ev, test_bind]
      show M.bind (M.bind (ev G.cl ea ρ) _) _ S = M.bind (ev G.cl ea ρ) _ S
      unfold M.bind
      cases q : ev G.cl ea ρ S with
      | ok d S' => cases d with
        | bl b => cases b <;> rfl
        | _ => rfl
      | _ => rfl
    rw [e] at o
    refine Out.bind o fun b S' loc' H' b' e' le sr' r o' => ?_
    cases r
    cases b with
    | false => exact ⟨ρ, S', loc', er.mono le, sr', o'⟩
    | true => exact o'.pure sr' rfl
theorem se_ite {p a b : Expr} {ep ea eb : E} {pos : Pos} (hp : SE G p ep) (ha : SE G a ea) (hb : SE G b eb) : SE G (.IfExp p a b pos) (.ite ep ea eb) := by
  refine ⟨fun X W c => ⟨fun pins s σ H Q I ⟨ρ, S, loc, er, sr, o⟩ => ?_⟩, fun X W c => ⟨fun pins s σ H Q I ⟨ρ, S, loc, er, sr, o⟩ => ?_⟩, ⟨fun _ _ => rfl, fun _ _ => rfl, fun _ _ => rfl, fun _ _ => rfl, fun _ => rfl⟩⟩
  · refine (pe_ifExp (hp.ht X W c) (ha.hv X W c) (hb.hv X W c)).run pins s σ H Q I ⟨ρ, S, loc, er, sr, ?_⟩
    rw [ev] at o
    refine Out.bind o fun b S' loc' H' b' e' le sr' r o' => ?_
    cases r
    cases b with
    | true => exact ⟨ρ, S', loc', er.mono le, sr', o'⟩
    | false => exact ⟨ρ, S', loc', er.mono le, sr', o'⟩
  · have e : test (ev G.cl (.ite ep ea eb) ρ) S = (test (ev G.cl ep ρ) >>= fun b => if b then test (ev G.cl ea ρ) else test (ev G.cl eb ρ)) S := by
      rw [ev]
      show M.bind (M.bind (test (ev G.cl ep ρ)) _) _ S = M.bind (test (ev G.cl ep ρ)) _ S
      unfold M.bind
      cases q : test (ev G.cl ep ρ) S with
      | ok b S' => cases b <;> rfl
      | _ => rfl
    rw [e] at o
    refine isTrue_IfExp (thn ((hp.ht X W c).run pins s σ H (fun b H' => if b = true then rdT X G W ea σ H' Q else rdT X G W eb σ H' Q) I ⟨ρ, S, loc, er, sr, ?_⟩) fun b s1 ⟨H1, I1, q1⟩ => ?_)
    · refine Out.bind o fun b S' loc' H' b' e' le sr' r o' => ?_
      cases r
      cases b with
      | true => exact ⟨ρ, S', loc', er.mono le, sr', o'⟩
      | false => exact ⟨ρ, S', loc', er.mono le, sr', o'⟩
    · cases b with
      | true => exact (ha.ht X W c).run pins s1 σ H1 Q I1 q1
      | false => exact (hb.ht X W c).run pins s1 σ H1 Q I1 q1
/-! ### a chain of two comparisons -/
theorem se_chain {o1 o2 : CmpOp} {c1 c2 : Cop} {a b d : Expr} {ea eb ed : E} {pos : Pos} (h1 : ∀ X : Cx, X.A.units + 64 < cLine → OpR X (compareOp o1) (rV2 X.K (cmpF c1))) (h2 : ∀ X : Cx, X.A.units + 64 < cLine → OpR X (compareOp o2) (rV2 X.K (cmpF c2)))
    (ha : SE G a ea) (hb : SE G b eb) (hd : SE G d ed) : SE G (.Compare a [o1, o2] [b, d] pos) (.cmp2 c1 c2 ea eb ed) := by
  have main : ∀ X W, CxOk G W X → ∀ (σ : L2.St) (H : Hp) (Q : VK), rdE X G W (.cmp2 c1 c2 ea eb ed) σ H Q → tChain (rV2 X.K (cmpF c1)) (rV2 X.K (cmpF c2)) (rdE X G W ea) (rdE X G W eb) (rdE X G W ed) σ H Q := by
    intro X W c σ H Q ⟨ρ, S, loc, er, sr, o⟩
    rw [ev] at o
    refine ⟨ρ, S, loc, er, sr, Out.bind o fun x S1 loc1 H1 vx e1 le1 sr1 rx o1 => ?_⟩
    refine ⟨ρ, S1, loc1, er.mono le1, sr1, Out.bind o1 fun y S2 loc2 H2 vy e2 le2 sr2 ry o2 => ?_⟩
    refine ⟨loc2, S2, x, y, sr2, rx.mono le2, ry, ?_⟩
    have o3 := Out.bind (rel := RD X.K) (Q' := fun z H3 => ∃ k, z = .bl k ∧ if k = true then rdE X G W ed σ H3 (fun w H4 => rV2 X.K (cmpF c2) vy w H4 Q) else Q (.bl false) H3) o2 fun r S3 loc3 H3 vr e3 le3 sr3 rr o3 => by
      cases rr with
      | bl k =>
        refine ⟨k, rfl, ?_⟩
        cases k with
        | false => exact Out.pure o3 sr3 (.bl _)
        | true =>
          refine ⟨ρ, S3, loc3, (er.mono le1).mono (le2.trans le3), sr3, Out.bind o3 fun z S4 loc4 H4 vz e4 le4 sr4 rz o4 => ?_⟩
          refine ⟨loc4, S4, y, z, sr4, (ry.mono le3).mono le4, rz, ?_⟩
          cases q : cmpF c2 y z S4 with
          | ok d S' => rw [q] at o4; exact o4
          | exc c fs S' => exact absurd q (cmpF_nx _ _ _ _ _ _ _)
          | no => rw [q] at o4; exact o4.elim
      | _ => exact o3.elim
    cases q : cmpF c1 x y S2 with
    | ok d S' => rw [q] at o3; exact o3
    | exc c fs S' => exact absurd q (cmpF_nx _ _ _ _ _ _ _)
    | no => rw [q] at o3; exact o3.elim
  refine ⟨fun X W c => ⟨fun pins s σ H Q I h => ?_⟩, fun X W c => ⟨fun pins s σ H Q I ⟨ρ, S, loc, er, sr, o⟩ => ?_⟩, ⟨fun _ _ => rfl, fun _ _ => rfl, fun _ _ => rfl, fun _ _ => rfl, fun _ => rfl⟩⟩
  · exact (pe_chain (h1 X c.un) (h2 X c.un) (ha.hv X W c) (hb.hv X W c) (hd.hv X W c) (show lastMarks [o1, o2] [b, d] = false from hd.pl.mark o2)).run pins s σ H Q I (main X W c σ H Q h)
  · refine (pt_chain (h1 X c.un) (h2 X c.un) (ha.hv X W c) (hb.hv X W c) (hd.hv X W c) (show lastMarks [o1, o2] [b, d] = false from hd.pl.mark o2)).run pins s σ H Q I (main X W c σ H _ ⟨ρ, S, loc, er, sr, ?_⟩)
    refine Out.bind (rel := RD X.K) (f := fun x => ofO (truth x)) o fun d S' loc' H' v e' le sr' r o' => ?_
    cases r with
    | bl b => exact ⟨b, rfl, o' loc' H' b Le.refl sr' rfl⟩
    | _ => exact o'.elim
/-! ### argument lists -/
theorem sa_nil : SA G [] .nil := ⟨fun X W c => ⟨fun p pins s σ H Q I ⟨ρ, S, loc, er, sr, o⟩ => by
  rw [evs] at o
  exact pa_nil.run p pins s σ H Q I (o.pure sr .nil)⟩⟩
theorem sa_cons {a : Expr} {r : List Expr} {ea : E} {er' : Es} (ha : SE G a ea) (hr : SA G r er') : SA G (a :: r) (.cons ea er') := by
  refine ⟨fun X W c => ⟨fun p pins s σ H Q I ⟨ρ, S, loc, er, sr, o⟩ => ?_⟩⟩
  refine (pa_cons (ha.hv X W c) (hr.pa X W c) (ha.pl.star _ _)).run p pins s σ H Q I ⟨ρ, S, loc, er, sr, ?_⟩
  rw [evs] at o
  refine Out.bind o fun d S' loc' H' v e' le sr' r o' => ?_
  exact ⟨ρ, S', loc', er.mono le, sr', Out.bind o' fun ds S2 loc2 H2 vs e2 le2 sr2 r2 o2 => o2.pure sr2 (.cons (r.mono le2) r2)⟩
theorem Out.get {α : Type} {K : PySem.W.Frag} {C : Clss} {W : XW} {β : Type} {rel : Loc → Hp → α → β → Prop} {loc : Loc} {H : Hp} {f : Store → M α} {S : Store} {Q : β → Hp → Prop} (h : Out K C W rel loc H ((Pf.get >>= f) S) Q) : Out K C W rel loc H (f S S) Q := h
theorem sa_star {a : Expr} {r : List Expr} {ea : E} {er' : Es} {ps : Pos} (ha : SE G a ea) (hr : SA G r er') : SA G (.Starred a ps :: r) (.star ea er') := by
  refine ⟨fun X W c => ⟨fun p pins s σ H Q I ⟨ρ, S, loc, er, sr, o⟩ => ?_⟩⟩
  refine (StX.pa_star (ha.hv X W c) (hr.pa X W c)).run p pins s σ H Q I ⟨ρ, S, loc, er, sr, ?_⟩
  rw [evs] at o
  refine Out.bind o fun d S' loc' H' v e' le sr' r o' => ?_
  have o1 := Out.get o'
  cases q : getS S' d with
  | none => simp only [q] at o1; exact o1.elim
  | some l =>
    simp only [q] at o1
    obtain ⟨b, xs, rfl, hq, rs⟩ := getS_at sr' q r
    exact ⟨b, xs, rfl, hq.symm, ρ, S', loc', er.mono le, sr', Out.bind o1 fun ds S2 loc2 H2 vs e2 le2 sr2 r2 o2 => o2.pure sr2 ((rs.mono le2).append r2)⟩
end
end Pf

set_option linter.all false
set_option Elab.async false
set_option maxRecDepth 100000
set_option autoImplicit false
namespace Pf
open PySem PySem.Spec PyProof.Rows L2
section
variable {K : PySem.W.Frag} {H : Hp} {loc : Loc} {S : Store}
theorem Le.kill {n : Nat} : Le loc H (loc.kill n) H := by
  refine ⟨fun a o h hn => ⟨h, fun m => ?_⟩, fun m a h hm => ?_, by simp [Loc.kill], rfl, fun _ _ => rfl⟩
  · rcases m with m | m
    · obtain ⟨i, hi⟩ := List.getElem?_of_mem (show some a ∈ loc.c.set n none from m)
      by_cases e : n = i
      · subst e
        have hl : n < (loc.c.set n none).length := (List.getElem?_eq_some_iff.mp hi).1
        rw [List.length_set] at hl
        rw [List.getElem?_set_self hl] at hi
        cases hi
      · rw [List.getElem?_set_ne e] at hi
        exact hn (.inl (List.mem_of_getElem? hi))
    · exact hn (.inr m)
  · have h' : (loc.c.set n none)[m]? = some (some a) := h
    by_cases e : n = m
    · subst e
      rw [List.getElem?_set_self hm] at h'
      cases h'
    · rw [List.getElem?_set_ne e] at h'
      exact h'
theorem StoreR.kill {n : Nat} (s : StoreR K H loc S) : StoreR K H (loc.kill n) (S.set n .dead) := by
  have le : Le loc H (loc.kill n) H := Le.kill
  have key : ∀ i a, (loc.c.set n none)[i]? = some (some a) → loc.c[i]? = some (some a) := fun i a h => by
    have hi : i < loc.c.length := by have := (List.getElem?_eq_some_iff.mp h).1; simpa using this
    exact le.idx i a h hi
  refine ⟨by simp [Loc.kill, s.len], fun m o e => ?_, fun i m a h1 h2 => s.inj i m a (key i a h1) (key m a h2), fun a ha => ?_, s.ht, wf_set s.wf rfl⟩
  · by_cases hm : n = m
    · subst hm
      have hl : n < (S.set n .dead).length := (List.getElem?_eq_some_iff.mp e).1
      rw [List.length_set] at hl
      rw [List.getElem?_set_self hl] at e
      cases e
      refine ⟨none, ?_, .dead⟩
      show (loc.c.set n none)[n]? = _
      rw [List.getElem?_set_self (by rw [s.len]; exact hl)]
    · rw [List.getElem?_set_ne hm] at e
      obtain ⟨c, h1, h2⟩ := s.cell m o e
      refine ⟨c, ?_, h2.mono le fun _ _ _ h => h⟩
      show (loc.c.set n none)[m]? = _
      rw [List.getElem?_set_ne hm]; exact h1
  · obtain ⟨i, hi⟩ := List.getElem?_of_mem (show some a ∈ loc.c.set n none from ha)
    exact s.dis a (List.mem_of_getElem? (key i a hi))
theorem frz_out {d : D} {v : V} {Q : VK} {C : Clss} {W : XW} (s : StoreR K H loc S) (r : RelD K H loc d v) (o : Out K C W (RD K) loc H (frzF d S) Q) : Q v H := by
  cases d with
  | ref n =>
    have o' : Out K C W (RD K) loc H (match S[n]? with
      | some (.lst l) => .ok (.lst l) (S.set n .dead)
      | _ => .no) Q := o
    cases q : S[n]? with
    | none => rw [q] at o'; exact o'.elim
    | some ob =>
      rw [q] at o'
      cases ob with
      | lst l =>
        obtain ⟨a, xs, h1, h2, h3⟩ := s.lst q
        cases r with
        | ref hn hr =>
          obtain rfl := hr a h1
          refine o' (loc.kill n) H _ Le.kill s.kill (.lst h2 (fun m => ?_) (h3.mono Le.kill))
          rcases m with m | m
          · obtain ⟨i, hi⟩ := List.getElem?_of_mem (show some a ∈ loc.c.set n none from m)
            have hl : i < loc.c.length := by have := (List.getElem?_eq_some_iff.mp hi).1; simpa using this
            have hi' : loc.c[i]? = some (some a) := (Le.kill (H := H) (loc := loc) (n := n)).idx i a hi hl
            have e := s.inj i n a hi' h1
            subst e
            rw [List.getElem?_set_self hl] at hi
            cases hi
          · exact s.dis a (List.mem_of_getElem? h1) m
      | _ => exact o'.elim
  | _ => exact o loc H v Le.refl s r
end
section
variable {G : Gm}
theorem se_frz {a : Expr} {ea : E} (ha : SE G a ea) (he : ∀ env whole, isTrue a env whole = (do let v ← whole; standAt a.pos; holding [v] (truthy v))) : SE G a (.frz ea) := by
  refine se_val (fun X W c => ⟨fun pins s σ H Q I ⟨ρ, S, loc, er, sr, o⟩ => ?_⟩) he ha.pl
  refine (ha.hv X W c).run pins s σ H Q I ⟨ρ, S, loc, er, sr, ?_⟩
  rw [ev] at o
  exact Out.bind o fun d S' loc' H' v e' le sr' r o' => frz_out sr' r o'
/-! ### displays -/
theorem need_bind {α : Type} {c : Bool} {f : Unit → M α} {S : Store} : (need c >>= f) S = if c then f () S else .no := by
  cases c <;> rfl
theorem Out.need {α β : Type} {K : PySem.W.Frag} {C : Clss} {W : XW} {rel : Loc → Hp → α → β → Prop} {loc : Loc} {H : Hp} {c : Bool} {f : Unit → M α} {S : Store} {Q : β → Hp → Prop} (h : Out K C W rel loc H ((Pf.need c >>= f) S) Q) : c = true ∧ Out K C W rel loc H (f () S) Q := by
  rw [need_bind] at h
  cases c with
  | true => exact ⟨rfl, h⟩
  | false => exact h.elim
theorem Out.tup {K : PySem.W.Frag} {C : Clss} {W : XW} {H : Hp} {loc : Loc} {S : Store} {Q : VK} {l : List D} {xs : List V} (h : Out K C W (RD K) loc H ((Pure.pure (D.tup l) : M D) S) Q) (s : StoreR K H loc S) (r : RelDs K H loc l xs) {p : Addr} (hp : H p = none) : Q (.ref p) (upd H p (.tup xs)) :=
  OutV.newTup (show OutV K loc H (.ok (.tup l) S) Q from h) s r hp
theorem Out.mk {K : PySem.W.Frag} {C : Clss} {W : XW} {H : Hp} {loc : Loc} {S : Store} {Q : VK} {m : Bool} {l : List D} {xs : List V} (h : Out K C W (RD K) loc H (mkL m l S) Q) (s : StoreR K H loc S) (r : RelDs K H loc l xs) {p : Addr} (hp : H p = none) : Q (.ref p) (upd H p (.lst xs)) :=
  OutV.newL (show OutV K loc H (mkL m l S) Q by cases m <;> exact h) s r hp
theorem se_tup {es : List Expr} {e : Es} {j : Nat} {pos : Pos} (h : SA G es e) : SE G (.Tuple es j pos) (.tup e) := by
  refine se_val (fun X W c => ⟨fun pins s σ H Q I ⟨ρ, S, loc, er, sr, o⟩ => ?_⟩) (fun _ _ => rfl) ⟨fun _ _ => rfl, fun _ _ => rfl, fun _ _ => rfl, fun _ _ => rfl, fun _ => rfl⟩
  refine (pe_tup (h.pa X W c)).run pins s σ H Q I ⟨ρ, S, loc, er, sr, ?_⟩
  rw [ev] at o
  refine Out.bind o fun ds S' loc' H' vs e' le sr' r o' => ?_
  obtain ⟨hn, o2⟩ := o'.need
  exact ⟨by rw [← r.length, ← LINE_eq]; exact of_decide_eq_true hn, fun p hp => o2.tup sr' r hp⟩
theorem se_lst {es : List Expr} {e : Es} {m : Bool} {pos : Pos} (h : SA G es e) : SE G (.List es pos) (.lst m e) := by
  refine se_val (fun X W c => ⟨fun pins s σ H Q I ⟨ρ, S, loc, er, sr, o⟩ => ?_⟩) (fun _ _ => rfl) ⟨fun _ _ => rfl, fun _ _ => rfl, fun _ _ => rfl, fun _ _ => rfl, fun _ => rfl⟩
  refine (pe_lst (h.pa X W c)).run pins s σ H Q I ⟨ρ, S, loc, er, sr, ?_⟩
  rw [ev] at o
  refine Out.bind o fun ds S' loc' H' vs e' le sr' r o' => ?_
  obtain ⟨hn, o2⟩ := o'.need
  exact ⟨by rw [← r.length, ← LINE_eq]; exact of_decide_eq_true hn, fun p hp => o2.mk sr' r hp⟩
/-! ### subscripts -/
theorem se_idx {a b : Expr} {ea eb : E} {pos : Pos} (ha : SE G a ea) (hb : SE G b eb) : SE G (.Subscript a b pos) (.idx ea eb) := by
  refine se_val (fun X W c => ⟨fun pins s σ H Q I ⟨ρ, S, loc, er, sr, o⟩ => ?_⟩) (fun _ _ => rfl) ⟨fun _ _ => rfl, fun _ _ => rfl, fun _ _ => rfl, fun _ _ => rfl, fun _ => rfl⟩
  exact (pe_ix (idxF_ok c.un) (ha.hv X W c) (hb.hv X W c) hb.pl.ix).run pins s σ H Q I (two (by rw [ev]) er sr idxF_nx o)
/-- the reading of an optional part -/
def rdO (X : Cx) (G : Gm) (W : WX) (e : Oe) : TO := fun σ H Q => ∃ ρ S loc, EnvR X.K H loc ρ σ ∧ StoreR X.K H loc S ∧ Out X.K G.C (fun c d H' => W c d σ H') (fun _ _ (a b : Option Int) => a = b) loc H (evO G.cl e ρ S) Q
theorem po_imp {X : Cx} {pe : Option Expr} {t t' : TO} (h : PO X pe t) (f : ∀ σ H Q, t' σ H Q → t σ H Q) : PO X pe t' := ⟨fun pins s σ H Q I q => h.run pins s σ H Q I (f σ H Q q)⟩
def SOp (G : Gm) (pe : Option Expr) (e : Oe) : Prop := ∀ X W, CxOk G W X → PO X pe (rdO X G W e)
theorem so_none : SOp G none .none := fun X W c => po_imp po_none fun σ H Q ⟨ρ, S, loc, er, sr, o⟩ => by
  rw [evO] at o
  exact o.pure sr rfl
theorem so_some {a : Expr} {ea : E} (ha : SE G a ea) : SOp G (some a) (.some ea) := fun X W c => po_imp (po_some (ha.hv X W c)) fun σ H Q ⟨ρ, S, loc, er, sr, o⟩ => by
  refine ⟨ρ, S, loc, er, sr, ?_⟩
  rw [evO] at o
  refine Out.bind o fun d S' loc' H' v e' le sr' r o' => ?_
  cases r with
  | int i => exact ⟨i, rfl, Out.pure o' sr' rfl⟩
  | _ => exact o'.elim
theorem sliF_nx (x : D) (lo hi : Option Int) (S : Store) : ∀ c fs S', sliF x lo hi S ≠ .exc c fs S' := by
  intro c fs S' h
  unfold sliF at h
  repeat (split at h <;> try cases h)
theorem se_sli {a : Expr} {ea : E} {lo hi : Option Expr} {elo ehi : Oe} {p2 pos : Pos} (ha : SE G a ea) (hl : SOp G lo elo) (hh : SOp G hi ehi) : SE G (.Subscript a (.Slice lo hi none p2) pos) (.sli ea elo ehi) := by
  refine se_val (fun X W c => ⟨fun pins s σ H Q I ⟨ρ, S, loc, er, sr, o⟩ => ?_⟩) (fun _ _ => rfl) ⟨fun _ _ => rfl, fun _ _ => rfl, fun _ _ => rfl, fun _ _ => rfl, fun _ => rfl⟩
  refine (pe_slice sliF_ok (ha.hv X W c) (hl X W c) (hh X W c)).run pins s σ H Q I ⟨ρ, S, loc, er, sr, ?_⟩
  rw [ev] at o
  refine Out.bind o fun d S1 loc1 H1 v e1 le1 sr1 r1 o1 => ?_
  refine ⟨ρ, S1, loc1, er.mono le1, sr1, Out.bind o1 fun l S2 loc2 H2 l' e2 le2 sr2 r2 o2 => ?_⟩
  cases r2
  refine ⟨ρ, S2, loc2, (er.mono le1).mono le2, sr2, Out.bind o2 fun h S3 loc3 H3 h' e3 le3 sr3 r3 o3 => ?_⟩
  cases r3
  refine ⟨loc3, S3, d, sr3, (r1.mono le2).mono le3, ?_⟩
  cases q : sliF d l h S3 with
  | ok z S' => rw [q] at o3; exact o3
  | exc c fs S' => exact absurd q (sliF_nx _ _ _ _ _ _ _)
  | no => rw [q] at o3; exact o3.elim
theorem se_rev {a : Expr} {ea : E} {m : Bool} {k : Nat} {p1 p2 p3 pos : Pos} (ha : SE G a ea) : SE G (.Subscript a (.Slice none none (some (.UnaryOp .USub (.Constant (.int 1) k p1) p2)) p3) pos) (.rev m ea) := by
  refine se_val (fun X W c => ⟨fun pins s σ H Q I ⟨ρ, S, loc, er, sr, o⟩ => ?_⟩) (fun _ _ => rfl) ⟨fun _ _ => rfl, fun _ _ => rfl, fun _ _ => rfl, fun _ _ => rfl, fun _ => rfl⟩
  refine (pe_revL (ha.hv X W c)).run pins s σ H Q I ⟨ρ, S, loc, er, sr, ?_⟩
  rw [ev] at o
  refine Out.bind o fun d S1 loc1 H1 v e1 le1 sr1 r1 o1 => ?_
  have o2 := Out.get o1
  cases q : getL S1 d with
  | none => simp only [q] at o2; exact o2.elim
  | some l =>
    simp only [q] at o2
    obtain ⟨b, xs, rfl, hq, rs⟩ := getL_at sr1 q r1
    exact ⟨b, xs, rfl, SqL.of hq, fun p hp => o2.mk sr1 rs.reverse hp⟩
end
end Pf

set_option linter.all false
set_option Elab.async false
set_option maxRecDepth 100000
set_option autoImplicit false
namespace Pf
open PySem PySem.Spec PyProof.Rows L2
section
variable {G : Gm}
theorem mkL_nx (m : Bool) (l : List D) (S : Store) : ∀ c fs S', mkL m l S ≠ .exc c fs S' := by
  intro c fs S' h
  cases m <;> cases h
theorem bi1_nx (b : Bi) (a : D) (S : Store) : ∀ c fs S', bi1 b a S ≠ .exc c fs S' := by
  intro c fs S' h
  cases b <;> simp only [bi1] at h <;> (repeat (split at h <;> try cases h)) <;> first | cases h | exact mkL_nx _ _ _ _ _ _ h
theorem bi2_nx (b : Bi) (a d : D) (S : Store) : ∀ c fs S', bi2 b a d S ≠ .exc c fs S' := by
  intro c fs S' h
  unfold bi2 at h
  repeat (split at h <;> try cases h)
theorem biF_nx (b : Bi) (as : List D) (S : Store) : ∀ c fs S', biF b as S ≠ .exc c fs S' := by
  intro c fs S' h
  match as, h with
  | [], h => cases h
  | [a], h => exact bi1_nx b a S c fs S' h
  | [a, d], h => exact bi2_nx b a d S c fs S' h
  | _ :: _ :: _ :: _, h => cases h
theorem plain_call {f : Expr} {e : Expr} {es : List Expr} {ks : List Keyword} {pos : Pos} : Plain (.Call f (e :: es) ks pos) := ⟨fun _ _ => rfl, fun _ _ => rfl, fun _ _ => by cases f <;> rfl, fun _ _ => rfl, fun _ => rfl⟩
theorem NoStar.nil : NoStar [] := fun _ _ => rfl
theorem NoStar.cons {a : Expr} {es : List Expr} (ha : Plain a) (h : NoStar es) : NoStar (a :: es) := fun env pos => by
  rw [ha.star]
  exact h env pos
def GlS (G : Gm) (x : Str) : Prop := G.sc.names.lookup x = some .globalImplicit
theorem CxOk.gl {W : WX} {X : Cx} (c : CxOk G W X) {x : Str} (h : GlS G x) : Gl X x := by
  show X.env.scope.names.lookup x = _
  rw [c.hsc]; exact h
/-- the arguments, then an operation on them -/
theorem args_out {X : Cx} {W : WX} {es : Es} {F : List D → M D} {m : M D} {σ : L2.St} {H : Hp} {Q : VK} {ρ : Ev} {S : Store} {loc : Loc} (hm : m = (do let xs ← evs G.cl es ρ; F xs)) (nx : ∀ xs S c fs S', F xs S ≠ .exc c fs S') (er : EnvR X.K H loc ρ σ) (sr : StoreR X.K H loc S)
    (o : Out X.K G.C (fun c d H' => W c d σ H') (RD X.K) loc H (m S) Q) : rdA X G W es σ H fun vs H1 => rVn X.K F vs H1 Q := by
  subst hm
  refine ⟨ρ, S, loc, er, sr, Out.bind o fun ds S' loc' H' vs e' le sr' r o' => ⟨loc', S', ds, sr', r, ?_⟩⟩
  cases q : F ds S' with
  | ok z S' => rw [q] at o'; exact o'
  | exc c fs S' => exact absurd q (nx _ _ _ _ _)
  | no => rw [q] at o'; exact o'.elim
theorem se_biB {b : Bi} {x : Str} {id : String} {e : Expr} {es : List Expr} {ees : Es} {p pos : Pos} (hc : ∀ X W, CxOk G W X → CallR X (.builtin id) (rVn X.K (biF b))) (hb : x ∈ G.bi) (hg : GlS G x) (hv : bootBuiltins x = some (.builtin id)) (hn : x ≠ "__name__") (hdb : (x == ("__debug__" : Str)) = false)
    (ha : SA G (e :: es) ees) (hp : Plain e) (hs : NoStar es) : SE G (.Call (.Name x p) (e :: es) [] pos) (.bi b ees) := by
  refine se_val (fun X W c => ⟨fun pins s σ H Q I ⟨ρ, S, loc, er, sr, o⟩ => ?_⟩) (fun _ _ => rfl) plain_call
  exact (pe_callB (hc X W c) (c.gl hg) (c.bis x hb) hv (ha.pa X W c) hn hdb (hp.star _ _) (hs _ _)).run pins s σ H Q I (args_out (by rw [ev]) (biF_nx b) er sr o)
theorem se_biT {b : Bi} {x : Str} {T : String} {e : Expr} {es : List Expr} {ees : Es} {p pos : Pos} (hc : ∀ X W, CxOk G W X → CallR X (.type T) (rVn X.K (biF b))) (hb : x ∈ G.bi) (hg : GlS G x) (hv : bootBuiltins x = some (.type T)) (hn : x ≠ "__name__") (hdb : (x == ("__debug__" : Str)) = false)
    (ha : SA G (e :: es) ees) (hp : Plain e) (hs : NoStar es) : SE G (.Call (.Name x p) (e :: es) [] pos) (.bi b ees) := by
  refine se_val (fun X W c => ⟨fun pins s σ H Q I ⟨ρ, S, loc, er, sr, o⟩ => ?_⟩) (fun _ _ => rfl) plain_call
  exact (pe_callTy (hc X W c) (c.gl hg) (c.bis x hb) hv (ha.pa X W c) hn hdb (hp.star _ _) (hs _ _)).run pins s σ H Q I (args_out (by rw [ev]) (biF_nx b) er sr o)
/-- isinstance(e, T) -/
theorem se_isi {t : Ty} {x : Str} {e : Expr} {ee : E} {p p2 pos : Pos} (hb : ("isinstance" : Str) ∈ G.bi) (hg : GlS G "isinstance") (hbx : x ∈ G.bi) (hgx : GlS G x) (hvx : bootBuiltins x = some (.type (tyName t))) (hn : x ≠ "__name__") (hdb : (x == ("__debug__" : Str)) = false)
    (he : SE G e ee) : SE G (.Call (.Name "isinstance" p) [e, .Name x p2] [] pos) (.isi ee t) := by
  refine se_val (fun X W c => ⟨fun pins s σ H Q I ⟨ρ, S, loc, er, sr, o⟩ => ?_⟩) (fun _ _ => rfl) plain_call
  have hT : PE X (.Name x p2) (tC (.ty (tyName t))) := pe_bltn (c.gl hgx) (c.bis x hbx) hvx rfl hn hdb
  refine (pe_callB (isiF_ok t) (c.gl hg) (c.bis _ hb) boot_isinstance (pa_cons (he.hv X W c) (pa_cons hT pa_nil (by rfl)) (he.pl.star _ _)) (by decide) (by decide) (he.pl.star _ _) rfl).run pins s σ H Q I ⟨ρ, S, loc, er, sr, ?_⟩
  rw [ev] at o
  refine Out.bind o fun d S' loc' H' v e' le sr' r o' => ⟨loc', S', v, d, rfl, sr', r, ?_⟩
  have nx : ∀ c fs S2, isiF t d S' ≠ .exc c fs S2 := fun c fs S2 h => by
    unfold isiF at h
    split at h <;> cases h
  cases q : isiF t d S' with
  | ok z S2 => rw [q] at o'; exact o'
  | exc c fs S2 => exact absurd q (nx _ _ _)
  | no => rw [q] at o'; exact o'.elim
/-! ### methods -/
theorem mthF_nx (m : Mt) (x : D) (as : List D) (S : Store) : ∀ c fs S', mthF m x as S ≠ .exc c fs S' := by
  intro c fs S' h
  unfold mthF at h
  repeat (split at h <;> try cases h)
theorem recv_list {X : Cx} {H : Hp} {loc : Loc} {S : Store} {d : D} {v : V} (sr : StoreR X.K H loc S) (r : RelD X.K H loc d v) (h : (getL S d).isSome = true) : tyV X.K "list" v H := by
  obtain ⟨l, e⟩ := Option.isSome_iff_exists.mp h
  obtain ⟨a, xs, rfl, hq, _⟩ := getL_at sr e r
  exact .inl ⟨rfl, _, SqL.of hq⟩
theorem few_of {es : List Expr} {cpos : Pos} (h : NoStar es) (hl : es.length < 30) (env : Env) : ((backTo cpos (starEach es env)).all (fun x => !x.1) && (backToKw cpos (keywordEach [] env)).all (fun x => x.1.isSome)
      && decide (es.length + ([] : List Keyword).length + (if ([] : List Keyword).isEmpty then 0 else 1) < 30)) = true := by
  have h1 : (backTo cpos (starEach es env)).all (fun x => !x.1) = true := by
    have := h env cpos
    rw [List.any_eq_false] at this
    rw [List.all_eq_true]
    intro x hx
    have := this x hx
    simpa using this
  rw [h1]
  have h2 : (backToKw cpos (keywordEach [] env)).all (fun x => x.1.isSome) = true := rfl
  rw [h2]
  show (true && true && decide (es.length + 0 + 0 < 30)) = true
  simpa using hl
theorem se_mth {m : Mt} {name : Str} {id : String} {o e : Expr} {es : List Expr} {eo : E} {ees : Es} {apos cpos : Pos} (hm : ∀ X : Cx, MtR X id (rVm X.K (mthF m))) (pa : PlainAttrs "list") (slot : Slot "list" name id) (hty : typeOf (.builtin id) = pure (.type "method_descriptor"))
    (hrv : ∀ x S, recvOk m x S = (getL S x).isSome) (ho : SE G o eo) (ha : SA G (e :: es) ees) (hp : Plain e) (hs : NoStar es) (hl : (e :: es).length < 30) (hline : (apos.endLine == cpos.line) = true) : SE G (.Call (.Attribute o name apos) (e :: es) [] cpos) (.mth m eo ees) := by
  refine se_val (fun X W c => ⟨fun pins s σ H Q I ⟨ρ, S, loc, er, sr, h⟩ => ?_⟩) (fun _ _ => rfl) plain_call
  refine (pe_bm pa slot hty (hm X) (ho.hv X W c) (ha.pa X W c) (ho.pl.base _ _) (few_of (NoStar.cons hp hs) hl _) hline (hp.star _ _) (hs _ _)).run pins s σ H Q I ⟨ρ, S, loc, er, sr, ?_⟩
  rw [ev] at h
  refine Out.bind h fun d S1 loc1 H1 v e1 le1 sr1 r1 o1 => ?_
  obtain ⟨hr, o2⟩ := (Out.get o1).need
  rw [hrv] at hr
  refine ⟨recv_list sr1 r1 hr, ρ, S1, loc1, er.mono le1, sr1, Out.bind o2 fun ds S2 loc2 H2 vs e2 le2 sr2 r2 o3 => ⟨loc2, S2, d, ds, sr2, r1.mono le2, r2, ?_⟩⟩
  cases q : mthF m d ds S2 with
  | ok z S2 => rw [q] at o3; exact o3
  | exc c fs S2 => exact absurd q (mthF_nx _ _ _ _ _ _ _)
  | no => rw [q] at o3; exact o3.elim
theorem se_mth0 {m : Mt} {name : Str} {id : String} {o : Expr} {eo : E} {apos cpos : Pos} (hm : ∀ X : Cx, MtR X id (rVm X.K (mthF m))) (pa : PlainAttrs "list") (slot : Slot "list" name id) (hty : typeOf (.builtin id) = pure (.type "method_descriptor"))
    (hrv : ∀ x S, recvOk m x S = (getL S x).isSome) (ho : SE G o eo) (hline : (apos.endLine == cpos.line) = true) : SE G (.Call (.Attribute o name apos) [] [] cpos) (.mth m eo .nil) := by
  refine se_val (fun X W c => ⟨fun pins s σ H Q I ⟨ρ, S, loc, er, sr, h⟩ => ?_⟩) (fun _ _ => rfl) ⟨fun _ _ => rfl, fun _ _ => rfl, fun _ _ => rfl, fun _ _ => rfl, fun _ => rfl⟩
  refine (pe_bm0 pa slot hty (hm X) (ho.hv X W c) (ho.pl.base _ _) hline).run pins s σ H Q I ⟨ρ, S, loc, er, sr, ?_⟩
  rw [ev] at h
  refine Out.bind h fun d S1 loc1 H1 v e1 le1 sr1 r1 o1 => ?_
  obtain ⟨hr, o2⟩ := (Out.get o1).need
  rw [hrv] at hr
  rw [evs] at o2
  have o3 : Out X.K G.C (fun c d H' => W c d σ H') (RD X.K) loc1 H1 (mthF m d [] S1) Q := o2
  refine ⟨recv_list sr1 r1 hr, loc1, S1, d, [], sr1, r1, .nil, ?_⟩
  cases q : mthF m d [] S1 with
  | ok z S2 => rw [q] at o3; exact o3
  | exc c fs S2 => exact absurd q (mthF_nx _ _ _ _ _ _ _)
  | no => rw [q] at o3; exact o3.elim
/-! ### calls of the module's defs -/
theorem run_fnG {X : Cx} {W : WX} {k : Nat} {a : Addr} {fd : FuncData} {ps : List Str} {cf : List D → M D} {C : Clss} (F : FnG X.prog X.w X.K X.mg X.base C k a fd ps cf) (hr : Room k X.A) (hg : X.A.guards = some []) (hb : Binds X.K fd ps []) (tk : Takes X W)
    {pins : List (Addr × Obj)} {σ : L2.St} {H : Hp} {s : Shared} {Q : VK} {us : List Value} {vs : List V} {loc : Loc} {S : Store} {as : List D} (I : Inv X pins σ H s) (r : Vals vs us) (sr : StoreR X.K H loc S) (ra : RelDs X.K H loc as vs) (hl : as.length = ps.length)
    (h : Out X.K C (fun c d H' => W c d σ H') (RD X.K) loc H (cf as S) Q) : wpAny (model X.prog X.w) X.A (call (.ref a) us) (EP X pins σ Q) X.xe s := by
  have hl2 : us.length = ps.length := by rw [← r.length, ← ra.length]; exact hl
  have hb' := hb s us I.kIn (by rw [List.append_nil]; exact hl2)
  rw [List.append_nil] at hb'
  refine wpAny_call (codeAny_mono (F.run X.A X.stack s H ⟨us, []⟩ us vs loc S as Q (fun c d H' => W c d σ H') hr hg I.env0 hb' r sr ra hl h) fun r s' hq => ?_)
  cases r with
  | error e => exact tk e s' (XE.of_call I (fun _ _ _ z => z) hq)
  | ok fl =>
    cases fl with
    | ret u => exact I.after hq
    | next => exact False.elim hq
    | brk => exact False.elim hq
    | cont => exact False.elim hq
theorem se_call {f : Nat} {x : Str} {e : Expr} {es : List Expr} {ees : Es} {p pos : Pos} (hf : (x, f) ∈ G.fn) (hg : GlS G x) (hdb : (x == ("__debug__" : Str)) = false) (ha : SA G (e :: es) ees) (hp : Plain e) (hs : NoStar es) : SE G (.Call (.Name x p) (e :: es) [] pos) (.call f ees) := by
  refine se_val (fun X W c => ⟨fun pins s σ H Q I ⟨ρ, S, loc, er, sr, o⟩ => ?_⟩) (fun _ _ => rfl) plain_call
  obtain ⟨a, fd, ps, hm, hk, hb, F, hlen⟩ := (c.fns _ hf).at_
  refine wpAny_Call_Name_kw (ld_glob I (c.gl hg) hm ?_ hdb)
  rw [ev] at o
  refine PySem.W.callWith_K (h₀ := X.base) I.ok.mod.kin hk (thn ((ha.pa X W c).run pos pins s σ H (fun vs H1 => ∃ loc1 S1 as, EnvR X.K H1 loc1 ρ σ ∧ StoreR X.K H1 loc1 S1 ∧ RelDs X.K H1 loc1 as vs ∧ Out X.K G.C (fun c d H' => W c d σ H') (RD X.K) loc1 H1 (G.cl f as S1) Q) I ⟨ρ, S, loc, er, sr, ?_⟩)
    fun us s1 ⟨vs, H1, I1, r, loc1, S1, as, er1, sr1, ra, o1⟩ => ⟨I1.kIn, ?_⟩) (hp.star _ _) (hs _ _)
  · exact Out.bind o fun ds S' loc' H' vs e' le sr' r o' => ⟨loc', S', ds, er.mono le, sr', r, o'⟩
  · refine run_fnG F c.room c.guards hb c.takes I1 r sr1 ra (hlen as S1 fun q => ?_) o1
    rw [q] at o1; exact o1.elim
theorem se_call0 {f : Nat} {x : Str} {p pos : Pos} (hf : (x, f) ∈ G.fn) (hg : GlS G x) (hdb : (x == ("__debug__" : Str)) = false) (hsup : (x == ("super" : Str)) = false) : SE G (.Call (.Name x p) [] [] pos) (.call f .nil) := by
  refine se_val (fun X W c => ⟨fun pins s σ H Q I ⟨ρ, S, loc, er, sr, o⟩ => ?_⟩) (fun _ _ => rfl) ⟨fun _ _ => rfl, fun _ _ => rfl, fun f env => ?_, fun _ _ => rfl, fun _ => rfl⟩
  · obtain ⟨a, fd, ps, hm, hk, hb, F, hlen⟩ := (c.fns _ hf).at_
    refine wpAny_Call_Name_kw (ld_glob I (c.gl hg) hm ?_ hdb)
    rw [ev, evs] at o
    have o1 : Out X.K G.C (fun c d H' => W c d σ H') (RD X.K) loc H (G.cl f [] S) Q := o
    refine PySem.W.callWith_K0 I.kIn hk (run_fnG (us := []) F c.room c.guards hb c.takes I .nil sr .nil (hlen [] S fun q => ?_) o1)
    rw [q] at o1; exact o1.elim
  · have e : (x != ("super" : Str)) = true := by simpa [bne] using hsup
    unfold attributeBase
    simp only [e, Bool.true_or, if_true]
end
end Pf

set_option linter.all false
set_option Elab.async false
set_option maxRecDepth 100000
set_option autoImplicit false
namespace Pf
open PySem PySem.Spec PyProof.Rows L2
/-! ### targets -/
mutual
/-- the slots of a target -/
def slots : Pt → List Nat
  | .name i => [i]
  | .tup ps => slotss ps
def slotss : List Pt → List Nat
  | [] => []
  | p :: ps => slots p ++ slotss ps
end
/-- the same but at some slots -/
def SameBut (is : List Nat) (σ σ' : L2.St) : Prop := ∀ vs : List Nat, (∀ i ∈ is, i ∈ vs) → wipe σ' vs = wipe σ vs
def rdG (X : Cx) (p : Pt) : TG := fun v σ H Q => ∃ ρ S loc d ρ', EnvR X.K H loc ρ σ ∧ StoreR X.K H loc S ∧ RelD X.K H loc d v ∧ bindP p d ρ = some ρ' ∧ ∀ σ', EnvR X.K H loc ρ' σ' → SameBut (slots p) σ σ' → Q σ' H
def rdGs (X : Cx) (ps : List Pt) : TGs := fun vs σ H Q => ∃ ρ S loc ds ρ', EnvR X.K H loc ρ σ ∧ StoreR X.K H loc S ∧ RelDs X.K H loc ds vs ∧ bindPs ps ds ρ = some ρ' ∧ ∀ σ', EnvR X.K H loc ρ' σ' → SameBut (slotss ps) σ σ' → Q σ' H
structure SG (G : Gm) (tg : Expr) (p : Pt) : Prop where
  hg : ∀ X W, CxOk G W X → PG X tg (rdG X p)
  ns : ∀ es env, assignEach (tg :: es) env = (false, assign tg env) :: assignEach es env
structure SGs (G : Gm) (tgs : List Expr) (ps : List Pt) : Prop where
  hg : ∀ X W, CxOk G W X → PGs X tgs (rdGs X ps)
  len : ∀ env, (assignEach tgs env).length = ps.length
  fi : ∀ env, (assignEach tgs env).findIdx? (·.1) = none
section
variable {G : Gm}
theorem EnvR.set {K : PySem.W.Frag} {H : Hp} {loc : Loc} {ρ : Ev} {σ : L2.St} {i : Nat} {d : D} {v : V} (e : EnvR K H loc ρ σ) (r : RelD K H loc d v) : EnvR K H loc (ρ.set i (some d)) (σ.set i (some v)) := by
  refine ⟨by simp [e.1], fun j d' h => ?_⟩
  by_cases hj : i = j
  · subst hj
    have hl : i < (ρ.set i (some d)).length := (List.getElem?_eq_some_iff.mp h).1
    rw [List.length_set] at hl
    rw [List.getElem?_set_self hl] at h
    cases h
    exact ⟨v, by rw [List.getElem?_set_self (by rw [← e.1]; exact hl)], r⟩
  · rw [List.getElem?_set_ne hj] at h
    obtain ⟨w, h1, h2⟩ := e.2 j d' h
    exact ⟨w, by rw [List.getElem?_set_ne hj]; exact h1, h2⟩
theorem PG_imp {X : Cx} {tg : Expr} {t t' : TG} (h : PG X tg t) (f : ∀ v σ H Q, t' v σ H Q → t v σ H Q) : PG X tg t' := ⟨fun pins s σ H v u Q I r q => h.run pins s σ H v u Q I r (f v σ H Q q)⟩
theorem PGs_imp {X : Cx} {tg : List Expr} {t t' : TGs} (h : PGs X tg t) (f : ∀ v σ H Q, t' v σ H Q → t v σ H Q) : PGs X tg t' := ⟨fun pins s σ H v u Q I r q => h.run pins s σ H v u Q I r (f v σ H Q q)⟩
theorem wipe_out_set {σ : L2.St} {i : Nat} {v : Option V} : ∀ {vs : List Nat}, i ∉ vs → wipe (σ.set i v) vs = (wipe σ vs).set i v
  | [], _ => rfl
  | w :: vs, h => by
    show (wipe (σ.set i v) vs).set w none = ((wipe σ vs).set w none).set i v
    rw [wipe_out_set (fun m => h (List.mem_cons_of_mem _ m)), List.set_comm]
    exact fun e => h (by rw [e]; exact List.mem_cons_self)
theorem wipe_set {σ : L2.St} {i : Nat} {v : Option V} : ∀ {vs : List Nat}, i ∈ vs → wipe (σ.set i v) vs = wipe σ vs
  | [], h => by cases h
  | w :: vs, h => by
    show (wipe (σ.set i v) vs).set w none = (wipe σ vs).set w none
    by_cases e : i ∈ vs
    · rw [wipe_set e]
    · have ew : i = w := by
        rcases List.mem_cons.mp h with q | q
        · exact q
        · exact absurd q e
      subst ew
      rw [wipe_out_set e, List.set_set]
theorem sg_name {i : Nat} {x : Str} {pos : Pos} (hi : G.N[i]? = some x) (hx : L2.Loc G.sc x) (hf : G.fc x = true ∨ G.sc.names.lookup x = some .local) : SG G (.Name x pos) (.name i) := by
  refine ⟨fun X W c => PG_imp (pg_name (X := X) (i := i) (by rw [c.hN]; exact c.nd) (by rw [c.hN]; exact hi) (by rw [c.hsc]; exact hx) (by rw [c.hsc, c.hfc]; exact hf)) fun v σ H Q h => ?_, fun _ _ => rfl⟩
  obtain ⟨ρ, S, loc, d, ρ', er, sr, r, b, k⟩ := h
  have b' : (if i < ρ.length then some (ρ.set i (some d)) else none) = some ρ' := by rw [← b, bindP]
  split at b'
  · cases b'
    exact k _ (er.set r) fun vs h => wipe_set (h i (by simp [slots]))
  · cases b'
theorem sgs_nil : SGs G [] [] := by
  refine ⟨fun X W c => PGs_imp pgs_nil fun v σ H Q h => ?_, fun _ => rfl, fun _ => rfl⟩
  obtain ⟨ρ, S, loc, ds, ρ', er, sr, r, b, k⟩ := h
  cases ds with
  | nil =>
    cases r
    have b' : some ρ = some ρ' := by rw [← b, bindPs]
    cases b'
    exact ⟨rfl, k _ er fun _ _ => rfl⟩
  | cons d ds =>
    rw [bindPs] at b
    · cases b
    all_goals (intros; simp_all)
theorem sgs_cons {a : Expr} {as : List Expr} {p : Pt} {ps : List Pt} (h1 : SG G a p) (h2 : SGs G as ps) : SGs G (a :: as) (p :: ps) := by
  refine ⟨fun X W c => PGs_imp (pgs_cons (h1.hg X W c) (h2.hg X W c) (by rw [h1.ns] <;> rfl)) fun v σ H Q h => ?_, fun env => ?_, fun env => ?_⟩
  · obtain ⟨ρ, S, loc, ds, ρ', er, sr, r, b, k⟩ := h
    cases r with
    | nil =>
      rw [bindPs] at b
      · cases b
      all_goals (intros; simp_all)
    | @cons d v' ds vs rd rs =>
      have b' : (bindP p d ρ).bind (bindPs ps ds) = some ρ' := by rw [← b, bindPs]
      cases q : bindP p d ρ with
      | none => rw [q] at b'; cases b'
      | some ρ1 =>
        rw [q] at b'
        exact ⟨_, _, rfl, ρ, S, loc, d, ρ1, er, sr, rd, q, fun σ' er' sb => ⟨ρ1, S, loc, ds, ρ', er', sr, rs, b', fun σ2 er2 sb2 => k σ2 er2 fun vs hv => (sb2 vs fun i hi => hv i (by simp [slotss, hi])).trans (sb vs fun i hi => hv i (by simp [slotss, hi]))⟩⟩
  · rw [h1.ns, List.length_cons, h2.len, List.length_cons]
  · rw [h1.ns, List.findIdx?_cons]
    simp [h2.fi]
theorem bindPs_len : ∀ (ps : List Pt) (ds : List D) (ρ ρ' : Ev), bindPs ps ds ρ = some ρ' → ds.length = ps.length
  | [], [], _, _, _ => rfl
  | [], _ :: _, ρ, ρ', b => by
    rw [bindPs] at b
    · cases b
    all_goals (intros; simp_all)
  | _ :: _, [], ρ, ρ', b => by
    rw [bindPs] at b
    · cases b
    all_goals (intros; simp_all)
  | p :: ps, d :: ds, ρ, ρ', b => by
    have b2 : (bindP p d ρ).bind (bindPs ps ds) = some ρ' := by rw [← b, bindPs]
    cases q : bindP p d ρ with
    | none => rw [q] at b2; cases b2
    | some ρ1 =>
      rw [q] at b2
      rw [List.length_cons, List.length_cons, bindPs_len ps ds ρ1 ρ' b2]
theorem sg_tup {es : List Expr} {ps : List Pt} {k : Nat} {pos : Pos} (h : SGs G es ps) : SG G (.Tuple es k pos) (.tup ps) := by
  refine ⟨fun X W c => PG_imp (pg_tup c.calm (h.hg X W c) (h.len _) (h.fi _)) fun v σ H Q hh => ?_, fun _ _ => rfl⟩
  obtain ⟨ρ, S, loc, d, ρ', er, sr, r, b, k⟩ := hh
  cases d with
  | tup ds =>
    have b' : bindPs ps ds ρ = some ρ' := by rw [← b, bindP]
    obtain ⟨a, xs, rfl, hq, rs⟩ := r.tupAt
    exact ⟨a, xs, rfl, hq, by rw [← rs.length]; exact bindPs_len _ _ _ _ b', ρ, S, loc, ds, ρ', er, sr, rs, b', fun σ' e s => k σ' e (by simpa [slots] using s)⟩
  | _ => rw [bindP] at b; cases b; all_goals (intros; simp_all)
/-! ### what is walked -/
structure Wk (K : PySem.W.Frag) (J : It) (items : List D) (loc0 : Loc) (H0 : Hp) : Prop where
  go : ∀ loc H S i, LeD loc0 H0 loc H → StoreR K H loc S → i < items.length → J.go i H
  stop : ∀ loc H S i, LeD loc0 H0 loc H → StoreR K H loc S → items.length ≤ i → J.stop i H
  yld : ∀ loc H S i x H', LeD loc0 H0 loc H → StoreR K H loc S → i < items.length → J.yld i H x H' → ∃ d, items[i]? = some d ∧ Le loc H loc H' ∧ StoreR K H' loc S ∧ RelD K H' loc d x
def rdI (X : Cx) (G : Gm) (W : WX) (src : Sc) : TI := fun σ H R => ∃ ρ S loc, EnvR X.K H loc ρ σ ∧ StoreR X.K H loc S ∧ Out X.K G.C (fun c d H' => W c d σ H') (fun loc H items J => Wk X.K J items loc H) loc H (evI G.cl src ρ S) R
structure SI (G : Gm) (tg pe : Expr) (src : Sc) : Prop where
  hi : ∀ X W, CxOk G W X → PI X tg pe (rdI X G W src)
  fold : ∀ env x, foldedSetIterable pe env x = pure x
theorem wk_tup {K : PySem.W.Frag} {H0 : Hp} {loc0 : Loc} {a : Addr} {xs : List V} {l : List D} (h : ∀ H loc, LeD loc0 H0 loc H → SqT K H a xs) (r : RelDs K H0 loc0 l xs) : Wk K (Itt K a) l loc0 H0 where
  go := fun loc H S i le _ hi => ⟨xs, xs[i]'(by rw [← r.length]; exact hi), h H loc le, by simp⟩
  stop := fun loc H S i le _ hi => ⟨xs, h H loc le, by rw [← r.length]; exact hi⟩
  yld := fun loc H S i x H' le sr hi y => by
    obtain ⟨rfl, y⟩ := y
    have hx := y xs (h _ loc le)
    obtain ⟨v, e, rv⟩ := r.get (i := i) (d := l[i]) (by simp)
    rw [hx] at e
    cases e
    exact ⟨l[i], by simp, Le.refl, sr, rv.monoD le⟩
theorem RelD.tupLater {K : PySem.W.Frag} {H : Hp} {loc : Loc} {l : List D} {v : V} (r : RelD K H loc (.tup l) v) : ∃ a xs, v = .ref a ∧ RelDs K H loc l xs ∧ ∀ H' loc', LeD loc H loc' H' → SqT K H' a xs := by
  cases r with
  | tup f r => exact ⟨_, _, rfl, r, fun H' loc' le => .inl (f.monoD rfl le).1⟩
  | tupK k r => exact ⟨_, _, rfl, r, fun _ _ _ => .inr k⟩
/-- frozen lists and the script -/
theorem RelD.lstLater {K : PySem.W.Frag} {H : Hp} {loc : Loc} {l : List D} {d : D} {v : V} (hd : d = .lst l ∨ d = .scr l) (r : RelD K H loc d v) : ∃ a xs, v = .ref a ∧ RelDs K H loc l xs ∧ ∀ H' loc', LeD loc H loc' H' → SqL K H' a xs := by
  rcases hd with rfl | rfl
  · cases r with
    | lst h n r => exact ⟨_, _, rfl, r, fun H' loc' le => SqL.of (le.keep _ _ h rfl n).1⟩
  · cases r with
    | scr h r =>
      rcases h with f | f
      · exact ⟨_, _, rfl, r, fun H' loc' le => .inl (f.monoD rfl le).1⟩
      · exact ⟨_, _, rfl, r, fun H' loc' le => f H'⟩
theorem wk_lst {K : PySem.W.Frag} {H0 : Hp} {loc0 : Loc} {a : Addr} {xs : List V} {l : List D} (h : ∀ H loc, LeD loc0 H0 loc H → SqL K H a xs) (r : RelDs K H0 loc0 l xs) : Wk K (Itl K a) l loc0 H0 where
  go := fun loc H S i le _ hi => ⟨xs, xs[i]'(by rw [← r.length]; exact hi), h H loc le, by simp⟩
  stop := fun loc H S i le _ hi => ⟨xs, h H loc le, by rw [← r.length]; exact hi⟩
  yld := fun loc H S i x H' le sr hi y => by
    obtain ⟨rfl, y⟩ := y
    have hx := y xs (h _ loc le)
    obtain ⟨v, e, rv⟩ := r.get (i := i) (d := l[i]) (by simp)
    rw [hx] at e
    cases e
    exact ⟨l[i], by simp, Le.refl, sr, rv.monoD le⟩
theorem getF_cases {d : D} {l : List D} (h : getF d = some l) : d = .tup l ∨ (d = .lst l ∨ d = .scr l) := by
  cases d with
  | tup x => cases h; exact .inl rfl
  | lst x => cases h; exact .inr (.inl rfl)
  | scr x => cases h; exact .inr (.inr rfl)
  | _ => cases h
theorem si_seq {tg a : Expr} {ea : E} (ha : SE G a ea) : SI G tg a (.seq ea) := by
  refine ⟨fun X W c => ⟨fun pins s σ H R I ⟨ρ, S, loc, er, sr, o⟩ => ?_⟩, ha.pl.fold⟩
  rw [evI] at o
  have lists : ∀ l d S', ev G.cl ea ρ S = .ok d S' → (d = .lst l ∨ d = .scr l) → iList X.K (rdE X G W ea) σ H R := fun l d S' q hd => by
    refine ⟨ρ, S, loc, er, sr, Out.bind o fun d' S2 loc' H' v e' le sr' r o' => ?_⟩
    rw [q] at e'
    cases e'
    obtain ⟨b, xs, rfl, rs, hl⟩ := RelD.lstLater hd r
    refine ⟨b, rfl, ⟨xs, hl _ _ Le.refl.d⟩, ?_⟩
    have e : ofO (getF d) = (pure l : M (List D)) := by rcases hd with rfl | rfl <;> rfl
    rw [e] at o'
    exact o'.pure sr' (wk_lst hl rs)
  cases q : ev G.cl ea ρ S with
  | no =>
    have o' : Out X.K G.C (fun c d H' => W c d σ H') (fun loc H items J => Wk X.K J items loc H) loc H (M.bind (ev G.cl ea ρ) (fun x => ofO (getF x)) S) R := o
    unfold M.bind at o'
    rw [q] at o'
    exact o'.elim
  | exc c' fs S' =>
    refine (pi_list (ha.hv X W c)).run pins s σ H R I ⟨ρ, S, loc, er, sr, Out.bind o fun d' S2 loc' H' v e' le sr' r o' => ?_⟩
    rw [q] at e'
    cases e'
  | ok d S' =>
    cases q2 : getF d with
    | none =>
      have o' : Out X.K G.C (fun c d H' => W c d σ H') (fun loc H items J => Wk X.K J items loc H) loc H (M.bind (ev G.cl ea ρ) (fun x => ofO (getF x)) S) R := o
      unfold M.bind at o'
      rw [q] at o'
      simp only [q2] at o'
      exact o'.elim
    | some l =>
      rcases getF_cases q2 with rfl | hd
      · refine (pi_tup (ha.hv X W c)).run pins s σ H R I ⟨ρ, S, loc, er, sr, Out.bind o fun d' S2 loc' H' v e' le sr' r o' => ?_⟩
        rw [q] at e'
        cases e'
        obtain ⟨b, xs, rfl, rs, hl⟩ := r.tupLater
        exact ⟨b, rfl, ⟨xs, hl _ _ Le.refl.d⟩, Out.pure (show Out X.K G.C (fun c d H' => W c d σ H') (fun loc H items J => Wk X.K J items loc H) loc' H' ((Pure.pure l : M (List D)) _) R from o') sr' (wk_tup hl rs)⟩
      · exact (pi_list (ha.hv X W c)).run pins s σ H R I (lists l d S' q hd)
/-- ranges -/
theorem ascend_get : ∀ (n : Nat) (lo : Int) (i : Nat), i < n → (ascend lo n)[i]? = some (.int (lo + i))
  | 0, _, _, h => by omega
  | n + 1, lo, 0, _ => by simp [ascend]
  | n + 1, lo, i + 1, h => by
    show (ascend (lo + 1) n)[i]? = _
    rw [ascend_get n (lo + 1) i (by omega)]
    congr 2
    omega
theorem ascend_len : ∀ (n : Nat) (lo : Int), (ascend lo n).length = n
  | 0, _ => rfl
  | n + 1, lo => by rw [ascend, List.length_cons, ascend_len n]
theorem stepped_get : ∀ (n : Nat) (lo c : Int) (i : Nat), i < n → (stepped lo c n)[i]? = some (.int (lo + i * c))
  | 0, _, _, _, h => by omega
  | n + 1, lo, c, 0, _ => by simp [stepped]
  | n + 1, lo, c, i + 1, h => by
    show (stepped (lo + c) c n)[i]? = _
    rw [stepped_get n (lo + c) c i (by omega)]
    congr 2
    have : ((i + 1 : Nat) : Int) * c = i * c + c := by
      rw [Int.natCast_add, Int.add_mul]; simp
    omega
theorem stepped_len : ∀ (n : Nat) (lo c : Int), (stepped lo c n).length = n
  | 0, _, _ => rfl
  | n + 1, lo, c => by rw [stepped, List.length_cons, stepped_len n]
theorem wk_range {K : PySem.W.Frag} {H0 : Hp} {loc0 : Loc} (lo : Int) (n : Nat) : Wk K (Itr lo n) (ascend lo n) loc0 H0 where
  go := fun loc H S i le _ hi => by rw [ascend_len] at hi; exact hi
  stop := fun loc H S i le _ hi => by rw [ascend_len] at hi; exact hi
  yld := fun loc H S i x H' le sr hi y => by
    obtain ⟨rfl, rfl⟩ := y
    rw [ascend_len] at hi
    exact ⟨_, ascend_get n lo i hi, Le.refl, sr, .int _⟩
theorem wk_rangeC {K : PySem.W.Frag} {H0 : Hp} {loc0 : Loc} (lo c : Int) (n : Nat) : Wk K (Itc lo c n) (stepped lo c n) loc0 H0 where
  go := fun loc H S i le _ hi => by rw [stepped_len] at hi; exact hi
  stop := fun loc H S i le _ hi => by rw [stepped_len] at hi; exact hi
  yld := fun loc H S i x H' le sr hi y => by
    obtain ⟨rfl, rfl⟩ := y
    rw [stepped_len] at hi
    exact ⟨_, stepped_get n lo c i hi, Le.refl, sr, .int _⟩
theorem small_b {i : Int} (h : small i = true) : -(2 ^ 62) ≤ i ∧ i < 2 ^ 62 := by
  unfold small at h
  rw [Bool.and_eq_true] at h
  have h1 := of_decide_eq_true h.1
  have h2 := of_decide_eq_true h.2
  omega
theorem si_rng1 {tg a : Expr} {ea : E} {p pos : Pos} (hb : ("range" : Str) ∈ G.bi) (hg : GlS G "range") (ha : SE G a ea) : SI G tg (.Call (.Name "range" p) [a] [] pos) (.rng1 ea) := by
  refine ⟨fun X W c => ⟨fun pins s σ H R I ⟨ρ, S, loc, er, sr, o⟩ => ?_⟩, fun _ _ => rfl⟩
  refine (pi_range1 (c.gl hg) (c.bis _ hb) (pa_cons (ha.hv X W c) pa_nil (ha.pl.star _ _)) (by rw [ha.pl.star] <;> rfl)).run pins s σ H R I ⟨ρ, S, loc, er, sr, ?_⟩
  rw [evI] at o
  refine Out.bind o fun d S' loc' H' v e' le sr' r o' => ?_
  cases r with
  | int i =>
    by_cases hs : small i = true
    · simp only [hs, if_true] at o'
      have b := small_b hs
      exact ⟨i, rfl, b.1, b.2, Out.pure o' sr' (wk_range 0 _)⟩
    · simp only [hs] at o'; exact o'.elim
  | _ => exact o'.elim
theorem si_rng2 {tg a b : Expr} {ea eb : E} {p pos : Pos} (hb : ("range" : Str) ∈ G.bi) (hg : GlS G "range") (ha : SE G a ea) (hb' : SE G b eb) : SI G tg (.Call (.Name "range" p) [a, b] [] pos) (.rng2 ea eb) := by
  refine ⟨fun X W c => ⟨fun pins s σ H R I ⟨ρ, S, loc, er, sr, o⟩ => ?_⟩, fun _ _ => rfl⟩
  have e1 : ∀ env, starEach [b] env = [(false, eval b env)] := fun env => by rw [hb'.pl.star] <;> rfl
  refine (pi_range2 (c.gl hg) (c.bis _ hb) (pa_cons (ha.hv X W c) (pa_cons (hb'.hv X W c) pa_nil (hb'.pl.star _ _)) (ha.pl.star _ _)) (by rw [ha.pl.star, e1]) (e1 _)).run pins s σ H R I ⟨ρ, S, loc, er, sr, ?_⟩
  rw [evI] at o
  refine Out.bind o fun d S' loc' H' v e' le sr' r o' => ⟨ρ, S', loc', er.mono le, sr', Out.bind o' fun d2 S2 loc2 H2 v2 e2 le2 sr2 r2 o2 => ?_⟩
  have r' := r.mono le2
  cases r' with
  | int i =>
    cases r2 with
    | int j =>
      by_cases hs : (small i && small j) = true
      · simp only [hs, if_true] at o2
        obtain ⟨s1, s2⟩ := Bool.and_eq_true_iff.mp hs
        have b1 := small_b s1
        have b2 := small_b s2
        exact ⟨i, j, rfl, ⟨b1.1, b1.2, b2.1, b2.2⟩, Out.pure o2 sr2 (wk_range i _)⟩
      · simp only [hs] at o2; exact o2.elim
    | _ => exact o2.elim
  | _ => exact o2.elim
theorem si_rng3 {tg a b : Expr} {ea eb : E} {k : Nat} {p pos p1 p2 : Pos} (hb : ("range" : Str) ∈ G.bi) (hg : GlS G "range") (ha : SE G a ea) (hb' : SE G b eb) : SI G tg (.Call (.Name "range" p) [a, b, .UnaryOp .USub (.Constant (.int 1) k p1) p2] [] pos) (.rng3 ea eb) := by
  refine ⟨fun X W c => ⟨fun pins s σ H R I ⟨ρ, S, loc, er, sr, o⟩ => ?_⟩, fun _ _ => rfl⟩
  have hst : PE X (.UnaryOp .USub (.Constant (.int 1) k p1) p2) (tUn (rU fun i => .int (-i)) (tC (.int 1))) := pe_un un_neg pe_int
  refine (pi_range3 (c.gl hg) (c.bis _ hb) (pa_cons (ha.hv X W c) (pa_cons (hb'.hv X W c) (pa_cons hst pa_nil (by rfl)) (hb'.pl.star _ _)) (ha.pl.star _ _)) (ha.pl.star _ _) (by rw [hb'.pl.star] <;> rfl)).run pins s σ H R I ⟨ρ, S, loc, er, sr, ?_⟩
  rw [evI] at o
  refine Out.bind o fun d S' loc' H' v e' le sr' r o' => ⟨ρ, S', loc', er.mono le, sr', Out.bind o' fun d2 S2 loc2 H2 v2 e2 le2 sr2 r2 o2 => ⟨1, rfl, ?_⟩⟩
  have r' := r.mono le2
  cases r' with
  | int i =>
    cases r2 with
    | int j =>
      by_cases hs : (small i && small j) = true
      · simp only [hs, if_true] at o2
        obtain ⟨s1, s2⟩ := Bool.and_eq_true_iff.mp hs
        have b1 := small_b s1
        have b2 := small_b s2
        exact ⟨i, j, -1, (i - j).toNat, rfl, RgC.neg b1.1 b1.2 b2.1 b2.2, Out.pure o2 sr2 (wk_rangeC i (-1) _)⟩
      · simp only [hs] at o2; exact o2.elim
    | _ => exact o2.elim
  | _ => exact o2.elim
/-! ### enumerate -/
theorem enumFrom_len : ∀ (l : List D) (k : Nat), (enumFrom k l).length = l.length
  | [], _ => rfl
  | _ :: l, k => by rw [enumFrom, List.length_cons, List.length_cons, enumFrom_len l]
theorem enumFrom_get : ∀ (l : List D) (k i : Nat) (d : D), l[i]? = some d → (enumFrom k l)[i]? = some (.tup [.int ((k + i : Nat) : Int), d])
  | [], _, _, _, h => by simp at h
  | x :: l, k, 0, d, h => by
    simp at h
    subst h
    simp [enumFrom]
  | x :: l, k, i + 1, d, h => by
    show (enumFrom (k + 1) l)[i]? = _
    rw [enumFrom_get l (k + 1) i d (by simpa using h)]
    congr 4
    omega
theorem wk_enum {K : PySem.W.Frag} {H0 : Hp} {loc0 : Loc} {a : Addr} {xs : List V} {l : List D} (h : ∀ H loc, LeD loc0 H0 loc H → SqL K H a xs) (r : RelDs K H0 loc0 l xs) : Wk K (Ite K a) (enumFrom 0 l) loc0 H0 where
  go := fun loc H S i le _ hi => ⟨xs, xs[i]'(by rw [← r.length]; rw [enumFrom_len] at hi; exact hi), h H loc le, by simp⟩
  stop := fun loc H S i le _ hi => ⟨xs, h H loc le, by rw [← r.length]; rw [enumFrom_len] at hi; exact hi⟩
  yld := fun loc H S i x H' le sr hi y => by
    obtain ⟨T, z, rfl, hT, rfl, y⟩ := y
    rw [enumFrom_len] at hi
    have hx := y xs (h _ loc le)
    obtain ⟨v, e, rv⟩ := r.get (i := i) (d := l[i]) (by simp)
    rw [hx] at e
    cases e
    have hn := sr.fresh hT
    have le2 : Le loc H loc (upd H T (.tup [.int (i : Nat), z])) := Le.laid hT hn
    refine ⟨_, enumFrom_get l 0 i l[i] (by simp), le2, sr.laid hT, .tup ⟨.inl upd_same, hn⟩ (.cons ?_ (.cons ((rv.monoD le).mono le2) .nil))⟩
    rw [Nat.zero_add]
    exact .int _
theorem si_enum {a : Expr} {ea : E} {p pos tpos : Pos} {elts : List Expr} {kk : Nat} (hb : ("enumerate" : Str) ∈ G.bi) (hg : GlS G "enumerate") (ha : SE G a ea) : SI G (.Tuple elts kk tpos) (.Call (.Name "enumerate" p) [a] [] pos) (.enum ea) := by
  refine ⟨fun X W c => ⟨fun pins s σ H R I ⟨ρ, S, loc, er, sr, o⟩ => ?_⟩, fun _ _ => rfl⟩
  refine (pi_enum (c.gl hg) (c.bis _ hb) (pa_cons (ha.hv X W c) pa_nil (ha.pl.star _ _)) (by rw [ha.pl.star] <;> rfl)).run pins s σ H R I ⟨ρ, S, loc, er, sr, ?_⟩
  rw [evI] at o
  refine Out.bind o fun d S' loc' H' v e' le sr' r o' => ?_
  cases d with
  | lst l =>
    obtain ⟨b, xs, rfl, rs, hl⟩ := RelD.lstLater (.inl rfl) r
    exact ⟨b, xs, rfl, hl _ _ Le.refl.d, Out.pure o' sr' (wk_enum hl rs)⟩
  | scr l =>
    obtain ⟨b, xs, rfl, rs, hl⟩ := RelD.lstLater (.inr rfl) r
    exact ⟨b, xs, rfl, hl _ _ Le.refl.d, Out.pure o' sr' (wk_enum hl rs)⟩
  | tup l => exact o'.elim
  | _ => exact o'.elim
end
end Pf

set_option linter.all false
set_option Elab.async false
set_option maxRecDepth 100000
set_option autoImplicit false
namespace Pf
open PySem PySem.Spec PyProof.Rows L2
/-- the text's facts within a comprehension's block -/
def Gm.blk (G : Gm) (scope : Scope) : Gm := { G with sc := relS scope G.sc, fc := fun x => scope.names.lookup x == some .cell }
/-- no exception -/
def noW : WX := fun _ _ _ _ => False
section
variable {G : Gm}
theorem takes_no {X : Cx} : Takes X noW := fun u s' ⟨a, B, sI, pins, σ, H, cls, d, e, I, nb, up, sky, na, os, ag, w⟩ => w.elim
theorem CxOk.blk {X : Cx} {W : WX} (c : CxOk G W X) (scope : Scope) (s : Shared) (H : Hp) (C : Addr) (cl : List (Str × Addr)) (fp : List Addr) : CxOk (G.blk scope) noW (X.blk s H scope (compEnvC scope cl C X.env) fp) where
  hN := c.hN
  nd := c.nd
  hsc := by
    show relabel scope X.env = relS scope G.sc
    rw [← c.hsc] <;> rfl
  calm := c.calm
  room := c.room
  guards := c.guards
  takes := takes_no
  fns := c.fns
  cons := c.cons
  bis := c.bis
  hfc := rfl
theorem EnvR.wipe {K : PySem.W.Frag} {H : Hp} {loc : Loc} {ρ : Ev} {σ : L2.St} (e : EnvR K H loc ρ σ) : ∀ vs, EnvR K H loc (wipeE ρ vs) (L2.wipe σ vs)
  | [] => e
  | v :: vs => by
    have ih := e.wipe vs
    refine ⟨by show ((wipeE ρ vs).set v none).length = ((L2.wipe σ vs).set v none).length; simp [ih.1], fun i d h => ?_⟩
    have h' : ((wipeE ρ vs).set v none)[i]? = some (some d) := h
    by_cases hi : v = i
    · subst hi
      have hl : v < ((wipeE ρ vs).set v none).length := (List.getElem?_eq_some_iff.mp h').1
      rw [List.length_set] at hl
      rw [List.getElem?_set_self hl] at h'
      cases h'
    · rw [List.getElem?_set_ne hi] at h'
      obtain ⟨w, h1, h2⟩ := ih.2 i d h'
      refine ⟨w, ?_, h2⟩
      show ((L2.wipe σ vs).set v none)[i]? = _
      rw [List.getElem?_set_ne hi]; exact h1
theorem wipe_wipe (σ : L2.St) (vs : List Nat) : wipe (wipe σ vs) vs = wipe σ vs := by
  have key : ∀ us : List Nat, (∀ i ∈ us, i ∈ vs) → wipe (wipe σ us) vs = wipe σ vs := fun us => by
    induction us with
    | nil => intro _; rfl
    | cons u us ih =>
      intro h
      show wipe ((wipe σ us).set u none) vs = _
      rw [wipe_set (h u List.mem_cons_self)]
      exact ih fun i hi => h i (List.mem_cons_of_mem _ hi)
  exact key vs fun _ h => h
/-- the tests of a clause -/
structure SC (G : Gm) (ifs : List Expr) (c : Oe) : Prop where
  ht : ∀ X W, CxOk G W X → PTs X ifs (fun σ H Q => ∃ ρ S loc, EnvR X.K H loc ρ σ ∧ StoreR X.K H loc S ∧ Out X.K G.C (fun c d H' => W c d σ H') RB loc H (evC G.cl c ρ S) Q)
theorem sc_nil : SC G [] .none := ⟨fun X W c => ⟨fun pins s σ H Q I ⟨ρ, S, loc, er, sr, o⟩ => by
  rw [evC] at o
  exact pts_nil.run pins s σ H Q I (o.pure sr rfl)⟩⟩
theorem sc_one {a : Expr} {ea : E} (ha : SE G a ea) : SC G [a] (.some ea) := ⟨fun X W c => ⟨fun pins s σ H Q I ⟨ρ, S, loc, er, sr, o⟩ => by
  rw [evC] at o
  exact (pts_one (ha.ht X W c)).run pins s σ H Q I ⟨ρ, S, loc, er, sr, o⟩⟩⟩
theorem noexc_ok {α : Type} {m : M α} {S : Store} : (∃ a S', m S = .ok a S' ∧ noexc m S = .ok a S') ∨ noexc m S = .no := by
  unfold noexc
  cases m S with
  | ok a S' => exact .inl ⟨a, S', rfl, rfl⟩
  | exc c fs S' => exact .inr rfl
  | no => exact .inr rfl
/-- one turn of a comprehension -/
def turnF (cl : Nat → List D → M D) (p : Pt) (own : List Nat) (c : Oe) (elt : E) (ρ : Ev) (d : D) : M (Option D) := match bindP p d (wipeE ρ own) with
  | none => no
  | some ρ' => do
    let b ← evC cl c ρ'
    if b then do
      let y ← ev cl elt ρ'
      pure (some y)
    else pure none
theorem ev_comp (cl : Nat → List D → M D) (m : Bool) (own : List Nat) (p : Pt) (src : Sc) (c : Oe) (elt : E) (ρ : Ev) : ev cl (.comp m own p src c elt) ρ = (do
    let items ← evI cl src ρ
    let ys ← noexc (collect (turnF cl p own c elt ρ) items)
    need (decide (ys.length ≤ LINE))
    mkL m ys) := by
  rw [ev]
  rfl
theorem collect_cons {f : D → M (Option D)} {x : D} {xs : List D} {S S2 : Store} {ys : List D} (h : collect f (x :: xs) S = .ok ys S2) : ∃ y S1 rest, f x S = .ok y S1 ∧ collect f xs S1 = .ok rest S2 ∧ ys = (match y with | some y => y :: rest | none => rest) := by
  have h' : M.bind (f x) (fun y => M.bind (collect f xs) fun ys => match y with | some y => M.pure (y :: ys) | none => M.pure ys) S = .ok ys S2 := h
  unfold M.bind at h'
  cases q : f x S with
  | ok y S1 =>
    rw [q] at h'
    simp only at h'
    cases q2 : collect f xs S1 with
    | ok rest S3 =>
      rw [q2] at h'
      cases y with
      | none => cases h'; exact ⟨none, S1, _, rfl, q2, rfl⟩
      | some y => cases h'; exact ⟨some y, S1, _, rfl, q2, rfl⟩
    | exc c fs S3 => rw [q2] at h'; cases h'
    | no => rw [q2] at h'; cases h'
  | exc c fs S1 => rw [q] at h'; cases h'
  | no => rw [q] at h'; cases h'
theorem collect_nil {f : D → M (Option D)} {S S2 : Store} {ys : List D} (h : collect f [] S = .ok ys S2) : ys = [] ∧ S2 = S := by
  have h' : R.ok ([] : List D) S = .ok ys S2 := h
  cases h'
  exact ⟨rfl, rfl⟩
/-- what is wanted of an outcome that is there -/
theorem Out.of_ok {α β : Type} {K : PySem.W.Frag} {C : Clss} {W : XW} {rel : Loc → Hp → α → β → Prop} {loc : Loc} {H : Hp} {r : R α} {a : α} {S' : Store} {Q : β → Hp → Prop} (e : r = .ok a S') (h : ∀ loc' H' b, Le loc H loc' H' → StoreR K H' loc' S' → rel loc' H' a b → Q b H') : Out K C W rel loc H r Q := by
  subst e; exact h
/-- a turn's outcome, taken apart -/
theorem turn_ok {cl : Nat → List D → M D} {p : Pt} {own : List Nat} {c : Oe} {elt : E} {ρ : Ev} {d : D} {S S1 : Store} {y : Option D} (h : turnF cl p own c elt ρ d S = .ok y S1) : ∃ ρ' b S', bindP p d (wipeE ρ own) = some ρ' ∧ evC cl c ρ' S = .ok b S' ∧
    ((b = true ∧ ∃ z, ev cl elt ρ' S' = .ok z S1 ∧ y = some z) ∨ (b = false ∧ y = none ∧ S1 = S')) := by
  unfold turnF at h
  cases q : bindP p d (wipeE ρ own) with
  | none => rw [q] at h; cases h
  | some ρ' =>
    rw [q] at h
    have h' : M.bind (evC cl c ρ') (fun b => if b = true then M.bind (ev cl elt ρ') (fun y => M.pure (some y)) else M.pure none) S = .ok y S1 := h
    unfold M.bind at h'
    cases q2 : evC cl c ρ' S with
    | ok b S' =>
      rw [q2] at h'
      cases b with
      | true =>
        simp only [if_true] at h'
        cases q3 : ev cl elt ρ' S' with
        | ok z S3 =>
          rw [q3] at h'
          cases h'
          exact ⟨ρ', true, S', rfl, q2, .inl ⟨rfl, z, q3, rfl⟩⟩
        | exc c fs S3 => rw [q3] at h'; cases h'
        | no => rw [q3] at h'; cases h'
      | false =>
        have h2 : R.ok (none : Option D) S' = .ok y S1 := h'
        cases h2
        exact ⟨ρ', false, _, rfl, q2, .inr ⟨rfl, rfl, rfl⟩⟩
    | exc c fs S3 => rw [q2] at h'; cases h'
    | no => rw [q2] at h'; cases h'
theorem rd_comp {X : Cx} {W : WX} {m : Bool} {ownN : List (Str × Nat)} {p : Pt} {src : Sc} {c : Oe} {elt : E} (Gb : Gm) (hcl : Gb.cl = G.cl) (hC : Gb.C = G.C) (hsl : ∀ i ∈ slots p, i ∈ ownN.map (·.2)) {σ : L2.St} {H : Hp} {Q : VK}
    (h : rdE X G W (.comp m (ownN.map (·.2)) p src c elt) σ H Q) :
    tLc (rdI X G W src) (rdG X p) (fun σ H Q => ∃ ρ S loc, EnvR X.K H loc ρ σ ∧ StoreR X.K H loc S ∧ Out X.K Gb.C (fun c d H' => noW c d σ H') RB loc H (evC Gb.cl c ρ S) Q) (rdE X Gb noW elt) (ownN.map (·.2)) σ H Q := by
  obtain ⟨ρ, S, loc, er, sr, o⟩ := h
  rw [ev_comp] at o
  refine ⟨ρ, S, loc, er, sr, Out.bind o fun items S1 loc1 H1 J e1 le1 sr1 wk o1 => ?_⟩
  intro dd hD
  -- the turns all end
  have o2 : Out X.K G.C (fun c d H' => W c d σ H') (RD X.K) loc1 H1 (M.bind (noexc (collect (turnF G.cl p (ownN.map (·.2)) c elt ρ) items)) (fun ys => need (decide (ys.length ≤ LINE)) >>= fun _ => mkL m ys) S1) Q := o1
  rcases noexc_ok (m := collect (turnF G.cl p (ownN.map (·.2)) c elt ρ) items) (S := S1) with ⟨ys, S2, hc, hn⟩ | hn
  rotate_left
  · unfold M.bind at o2
    rw [hn] at o2
    exact o2.elim
  unfold M.bind at o2
  rw [hn] at o2
  obtain ⟨hlen, o3⟩ := Out.need o2
  have hlen := of_decide_eq_true hlen
  clear o o1 o2 hn
  have er1 : EnvR X.K H1 loc1 ρ σ := er.mono le1
  have hDh : dd ∉ loc1.h := fun hm => sr1.fresh hD (.inr hm)
  obtain ⟨c1, h1⟩ := loc1
  refine ⟨fun i k H => ∃ cc S done rest acc, k = items.length - i ∧ i ≤ items.length ∧ Le ⟨c1, h1⟩ H1 ⟨cc, h1⟩ H ∧ LeD ⟨c1, h1⟩ H1 ⟨cc, dd :: h1⟩ H ∧ StoreR X.K H ⟨cc, dd :: h1⟩ S ∧ H dd = some (.lst acc) ∧ RelDs X.K H ⟨cc, dd :: h1⟩ done acc ∧
    collect (turnF G.cl p (ownN.map (·.2)) c elt ρ) (items.drop i) S = .ok rest S2 ∧ ys = done ++ rest, ⟨items.length, c1, S1, [], ys, [], by simp, Nat.zero_le _, ?_, LeD.hide sr1 hD, sr1.hide hD, upd_same, .nil, by simpa using hc, rfl⟩, ?_⟩
  · exact Le.wrote Le.refl hD hDh
  rintro i k H ⟨cc, S, done, rest, acc, rfl, hi, le, leD, srD, hdd, rd, hcol, hys⟩
  by_cases hlt : i < items.length
  · refine .inr ⟨wk.go _ _ S i leD srD hlt, fun H' => ∃ cc S done rest acc, i + 1 ≤ items.length ∧ Le ⟨c1, h1⟩ H1 ⟨cc, h1⟩ H' ∧ LeD ⟨c1, h1⟩ H1 ⟨cc, dd :: h1⟩ H' ∧ StoreR X.K H' ⟨cc, dd :: h1⟩ S ∧ H' dd = some (.lst acc) ∧ RelDs X.K H' ⟨cc, dd :: h1⟩ done acc ∧
      collect (turnF G.cl p (ownN.map (·.2)) c elt ρ) (items.drop (i + 1)) S = .ok rest S2 ∧ ys = done ++ rest, ?_, ?_⟩
    · rintro H' ⟨cc, S, done, rest, acc, r⟩
      exact ⟨items.length - (i + 1), by omega, cc, S, done, rest, acc, rfl, r⟩
    · intro x H' y
      obtain ⟨d, hd, le2, sr2, rx⟩ := wk.yld _ _ S i x H' leD srD hlt y
      have hdrop : items.drop i = d :: items.drop (i + 1) := by
        rw [List.drop_eq_getElem_cons hlt]
        congr 1
        rw [List.getElem?_eq_getElem hlt] at hd
        exact Option.some.inj hd
      rw [hdrop] at hcol
      obtain ⟨y1, S3, rest1, hf, hcol1, hrest⟩ := collect_cons hcol
      obtain ⟨ρ', b, S4, hb, hcv, hcase⟩ := turn_ok hf
      have leD2 : LeD ⟨c1, h1⟩ H1 ⟨cc, dd :: h1⟩ H' := leD.trans le2.d
      have er2 : EnvR X.K H' ⟨cc, dd :: h1⟩ ρ σ := ⟨er1.1, fun i d h => let ⟨v, z1, z2⟩ := er1.2 i d h; ⟨v, z1, z2.monoD leD2⟩⟩
      refine ⟨wipeE ρ (ownN.map (·.2)), S, ⟨cc, dd :: h1⟩, d, ρ', er2.wipe _, sr2, rx, hb, fun σ2 e2 sb => ⟨?_, ?_⟩⟩
      · have := sb (ownN.map (·.2)) hsl
        rw [wipe_wipe] at this
        exact this
      · refine ⟨ρ', S, ⟨cc, dd :: h1⟩, e2, sr2, Out.of_ok (by rw [hcl]; exact hcv) fun loc3 H3 b' le3 sr3 rb => ?_⟩
        obtain rfl : b = b' := rb
        have hh3 : loc3.h = dd :: h1 := le3.hid
        obtain ⟨c3, h3⟩ := loc3
        obtain rfl : h3 = dd :: h1 := hh3
        have le13 : Le ⟨c1, h1⟩ H1 ⟨c3, h1⟩ H3 := le.trans ((le2.trans le3).bare sr3 hDh)
        have hdd3 : H3 dd = some (.lst acc) := by rw [le3.hk dd List.mem_cons_self, le2.hk dd List.mem_cons_self]; exact hdd
        have leD3 : LeD ⟨c1, h1⟩ H1 ⟨c3, dd :: h1⟩ H3 := leD2.trans le3.d
        have rd3 : RelDs X.K H3 ⟨c3, dd :: h1⟩ done acc := (rd.mono le2).mono le3
        rcases hcase with ⟨rfl, z, hz, rfl⟩ | ⟨rfl, rfl, rfl⟩
        · rw [if_pos rfl]
          refine ⟨ρ', S4, ⟨c3, dd :: h1⟩, e2.mono le3, sr3, Out.of_ok (by rw [hcl]; exact hz) fun loc4 H4 vz le4 sr4 rz => ?_⟩
          have hh4 : loc4.h = dd :: h1 := le4.hid
          obtain ⟨c4, h4⟩ := loc4
          obtain rfl : h4 = dd :: h1 := hh4
          have hdd4 : H4 dd = some (.lst acc) := by rw [le4.hk dd List.mem_cons_self]; exact hdd3
          have hl : acc.length < sizeLine := by
            have e1 := rd.length
            have e2 : ys.length = done.length + rest.length := by rw [hys, List.length_append]
            have e3 : rest.length = rest1.length + 1 := by rw [hrest]; rfl
            rw [← LINE_eq]
            omega
          refine ⟨acc, hdd4, hl, c4, S3, done ++ [z], rest1, acc ++ [vz], hlt, (le13.trans (le4.bare sr4 hDh)).wrote hD hDh, ?_, sr4.hidden List.mem_cons_self, upd_same, ?_, hcol1, ?_⟩
          · exact (leD3.trans le4.d).trans (LeD.hidden List.mem_cons_self)
          · exact ((rd3.mono le4).append (.cons rz .nil)).monoD (LeD.hidden List.mem_cons_self)
          · rw [hys, hrest]
            simp
        · rw [if_neg Bool.false_ne_true]
          exact ⟨c3, _, done, rest1, acc, hlt, le13, leD3, sr3, hdd3, rd3, hcol1, by rw [hys, hrest]⟩
  · have e : i = items.length := by omega
    subst e
    rw [List.drop_length] at hcol
    obtain ⟨rfl, rfl⟩ := collect_nil hcol
    rw [List.append_nil] at hys
    subst hys
    refine .inl ⟨wk.stop _ _ _ _ leD srD (Nat.le_refl _), ?_⟩
    cases m with
    | false =>
      refine o3 ⟨cc, h1⟩ H (.ref dd) le srD.bare (.lst hdd ?_ (rd.monoD LeD.bare))
      rintro (q | q)
      · exact srD.dis dd q List.mem_cons_self
      · exact hDh q
    | true =>
      have hx : StoreR X.K H ⟨cc ++ [some dd], h1⟩ (S2 ++ [.lst ys]) := srD.expose hDh (.lst hdd (rd.monoD LeD.expose)) (by rw [← srD.len]; exact rd.lowers)
      refine o3 ⟨cc ++ [some dd], h1⟩ H (.ref dd) (le.exposed hD) hx (.ref ?_ fun a ha => ?_)
      · have := srD.len
        show S2.length < (cc ++ [some dd]).length
        simp at this ⊢
        omega
      · have := srD.len
        have hl : cc.length = S2.length := this
        have ha' : (cc ++ [some dd])[S2.length]? = some (some a) := ha
        rw [← hl, List.getElem?_append_right (Nat.le_refl _)] at ha'
        simp at ha'
        rw [ha']
theorem se_comp {m : Bool} {elt tg iter : Expr} {ifs : List Expr} {scope : Scope} {own : List (Str × Nat)} {pos : Pos} {p : Pt} {src : Sc} {c : Oe} {e : E} (hi : SI G tg iter src) (ok : BlkOk G.N G.sc scope own) (hsl : ∀ i ∈ slots p, i ∈ own.map (·.2))
    (hg : SG (G.blk scope) tg p) (ht : SC (G.blk scope) ifs c) (he : SE (G.blk scope) elt e) : SE G (.ListComp elt [⟨tg, iter, ifs, 0⟩] scope pos) (.comp m (own.map (·.2)) p src c e) := by
  refine se_val (fun X W cx => ⟨fun pins s σ H Q I h => ?_⟩) (fun _ _ => rfl) ⟨fun _ _ => rfl, fun _ _ => rfl, fun _ _ => rfl, fun _ _ => rfl, fun _ => rfl⟩
  exact (pe_lc cx.calm (by rw [cx.hN]; exact cx.nd) (hi.hi X W cx) (by rw [cx.hN, cx.hsc]; exact ok) (fun s H C cl fp => hg.hg _ _ (cx.blk scope s H C cl fp)) (fun s H C cl fp => ht.ht _ _ (cx.blk scope s H C cl fp))
    (fun s H C cl fp => he.hv _ _ (cx.blk scope s H C cl fp)) (hi.fold X.env)).run pins s σ H Q I (rd_comp (G.blk scope) rfl rfl hsl h)
end
end Pf

set_option linter.all false
set_option Elab.async false
set_option maxRecDepth 100000
set_option autoImplicit false
namespace Pf
open PySem PySem.Spec PyProof.Rows L2
section
variable {G : Gm}
/-! ### dict displays, keys written -/
def keyOf : D → Key
  | .int i => .inl i
  | .str s => .inr ⟨s.toArray⟩
  | _ => .inl 0
theorem keyOf_at {d : D} (h : keyOk d = true) : KeyR d (keyOf d) := by
  cases d with
  | int i => exact .int i
  | str s => exact .str s
  | _ => cases h
/-- the pairs of a display -/
structure SP' (G : Gm) (keys : List (Option Expr)) (vals : List Expr) (ks : List D) (es : Es) : Prop where
  hp : ∀ X W, CxOk G W X → ∃ trs, (∀ pos, PPs X pos keys vals trs) ∧ ∀ (σ : L2.St) (H : Hp) (Q : List (V × V) → Hp → Prop) (ρ : Ev) (S : Store) (loc : Loc), EnvR X.K H loc ρ σ → StoreR X.K H loc S →
    Out X.K G.C (fun c d H' => W c d σ H') (RDs X.K) loc H (evs G.cl es ρ S) (fun vs H' => Q ((ks.map fun k => kV (keyOf k)).zip vs) H') → tPairs trs σ H Q
  all : keys.all (·.isSome) = true
  len : keys.length = vals.length
  len2 : ks.length = keys.length
theorem sp_nil : SP' G [] [] [] .nil := by
  refine ⟨fun X W c => ⟨[], fun _ => pps_nil, fun σ H Q ρ S loc er sr o => ?_⟩, rfl, rfl, rfl⟩
  rw [evs] at o
  exact o.pure sr .nil
theorem sp_cons {k v : Expr} {keys : List (Option Expr)} {vals : List Expr} {d : D} {ks : List D} {ev' : E} {es : Es} (hd : keyOk d = true) (hk : SE G k (.con d)) (hv : SE G v ev') (h : SP' G keys vals ks es) : SP' G (some k :: keys) (v :: vals) (d :: ks) (.cons ev' es) := by
  refine ⟨fun X W c => ?_, by simpa using h.all, by simp [h.len], by simp [h.len2]⟩
  obtain ⟨trs, hp, hr⟩ := h.hp X W c
  refine ⟨(rdE X G W (.con d), rdE X G W ev') :: trs, fun pos => pps_cons (hk.hv X W c) (hv.hv X W c) (hp pos), fun σ H Q ρ S loc er sr o => ?_⟩
  rw [evs] at o
  refine ⟨ρ, S, loc, er, sr, Out.of_ok (a := d) (S' := S) (by rw [ev] <;> rfl) fun loc1 H1 x le1 sr1 r1 => ?_⟩
  refine ⟨ρ, S, loc1, er.mono le1, sr1, Out.bind (o.later le1) fun d2 S2 loc2 H2 y e2 le2 sr2 r2 o2 => ?_⟩
  refine hr σ H2 _ ρ S2 loc2 ((er.mono le1).mono le2) sr2 (Out.bind o2 fun ds S3 loc3 H3 vs e3 le3 sr3 r3 o3 => ?_)
  have q := o3.pure sr3 (b := y :: vs) (.cons (r2.mono le3) r3)
  have ex : x = kV (keyOf d) := by
    cases d with
    | int i => cases r1; rfl
    | str s => cases r1; rfl
    | _ => cases hd
  rw [ex]
  exact q
theorem zip_map {α β γ : Type} (f : α → β) : ∀ (xs : List α) (ys : List γ), (xs.map f).zip ys = (xs.zip ys).map fun p => (f p.1, p.2)
  | [], _ => rfl
  | _ :: _, [] => rfl
  | x :: xs, y :: ys => by simp [zip_map f xs ys]
theorem merge_at {K : PySem.W.Frag} {H : Hp} {loc : Loc} : ∀ {ks ds : List D} {vs : List V} {acc : List (D × D)} {kv : List (Key × V)}, ks.all keyOk = true → ks.length = ds.length → RelDs K H loc ds vs → RelKV K H loc acc kv →
    RelKV K H loc (mergeD ks ds acc) (mergeK kv ((ks.zip vs).map fun p => (keyOf p.1, p.2)))
  | [], [], _, acc, kv, _, _, .nil, h => h
  | [], _ :: _, _, _, _, _, hl, _, _ => by simp at hl
  | _ :: _, [], _, _, _, _, hl, _, _ => by simp at hl
  | k :: ks, d :: ds, v :: vs, acc, kv, hk, hl, .cons r t, h => by
    rw [List.all_cons, Bool.and_eq_true] at hk
    exact merge_at (ks := ks) (ds := ds) (vs := vs) hk.2 (by simpa using hl) t (putD_at (keyOf_at hk.1) r h)
theorem RelKV.belows {K : PySem.W.Frag} {H : Hp} {loc : Loc} : ∀ {l : List (D × D)} {v : List (Key × V)}, RelKV K H loc l v → Pf.belows loc.c.length (l.map (·.2)) = true
  | _, _, .nil => rfl
  | _, _, .cons (d := d) (ds := ds) _ r t => by
    show (Pf.below _ d && Pf.belows _ (ds.map (·.2))) = true
    rw [r.lower, RelKV.belows t] <;> rfl
theorem se_dic {keys : List (Option Expr)} {vals : List Expr} {ks : List D} {es : Es} {pos : Pos} (h : SP' G keys vals ks es) (h0 : keys ≠ []) (h15 : keys.length ≤ 15) : SE G (.Dict keys vals pos) (.dic ks es) := by
  refine se_val (fun X W c => ⟨fun pins s σ H Q I ⟨ρ, S, loc, er, sr, o⟩ => ?_⟩) (fun _ _ => rfl) ⟨fun _ _ => rfl, fun _ _ => rfl, fun _ _ => rfl, fun _ _ => rfl, fun _ => rfl⟩
  obtain ⟨trs, hp, hr⟩ := h.hp X W c
  refine (pe_disp (hp pos) h.all h.len h0 h15).run pins s σ H Q I fun p hp => ?_
  have hDh : p ∉ loc.h := fun hm => sr.fresh hp (.inr hm)
  rw [ev] at o
  obtain ⟨c1, h1⟩ := loc
  have leH : LeD ⟨c1, h1⟩ H ⟨c1, p :: h1⟩ (upd H p (.dK [])) := LeD.hide sr hp
  refine hr σ _ _ ρ S ⟨c1, p :: h1⟩ ⟨er.1, fun i d h => let ⟨v, z1, z2⟩ := er.2 i d h; ⟨v, z1, z2.monoD leH⟩⟩ (sr.hide hp) ?_
  -- the values' outcome
  have o' : Out X.K G.C (fun c d H' => W c d σ H') (RD X.K) ⟨c1, h1⟩ H (M.bind (evs G.cl es ρ) (fun xs => dicF ks xs) S) Q := o
  unfold M.bind at o'
  cases q : evs G.cl es ρ S with
  | no => rw [q] at o'; exact o'.elim
  | exc ec fs S' =>
    rw [q] at o'
    intro loc' H' cls d le' sr' x
    obtain ⟨c2, h2⟩ := loc'
    obtain rfl : h2 = p :: h1 := le'.hid
    refine o' ⟨c2, h1⟩ H' cls d ?_ sr'.bare ?_
    · have := le'.bare sr' hDh
      exact (Le.wrote Le.refl hp hDh).trans this
    · obtain ⟨a, names, dd, vs, x1, x2, x3, x4, x5, x6, x7⟩ := x
      exact ⟨a, names, dd, vs, x1, x2, x3, x4, x5, fun m => x6 (m.imp id (List.mem_cons_of_mem _)), x7.monoD LeD.bare⟩
  | ok xs S' =>
    rw [q] at o'
    intro loc' H' vs le' sr' r
    obtain ⟨c2, h2⟩ := loc'
    obtain rfl : h2 = p :: h1 := le'.hid
    have hH' : H' p = some (.dK []) := by rw [le'.hk p List.mem_cons_self, upd_same]
    have oo : Out X.K G.C (fun c d H' => W c d σ H') (RD X.K) ⟨c1, h1⟩ H (if ks.length = xs.length ∧ ks.all keyOk = true ∧ ks.length ≤ 15 then alloc (.dic (mergeD ks xs [])) S' else .no) Q := o'
    by_cases hc : ks.length = xs.length ∧ ks.all keyOk = true ∧ ks.length ≤ 15
    · rw [if_pos hc] at oo
      have oo : Out X.K G.C (fun c d H' => W c d σ H') (RD X.K) ⟨c1, h1⟩ H (.ok (.ref S'.length) (S' ++ [.dic (mergeD ks xs [])])) Q := oo
      refine ⟨hH', (ks.zip vs).map fun p => (keyOf p.1, p.2), ?_, ?_, ?_⟩
      · rw [zip_map, List.map_map]
        rfl
      · rw [List.length_map, List.length_zip]
        omega
      · have le2 : Le ⟨c1, h1⟩ H ⟨c2, h1⟩ H' := (Le.wrote (o := .dK []) Le.refl hp hDh).trans (le'.bare sr' hDh)
        have sr2 : StoreR X.K (upd H' p (.dK (mergeK [] ((ks.zip vs).map fun p => (keyOf p.1, p.2))))) ⟨c2, p :: h1⟩ S' := sr'.hidden List.mem_cons_self
        have rm : RelKV X.K (upd H' p (.dK (mergeK [] ((ks.zip vs).map fun p => (keyOf p.1, p.2))))) ⟨c2, p :: h1⟩ (mergeD ks xs []) (mergeK [] ((ks.zip vs).map fun p => (keyOf p.1, p.2))) :=
          (merge_at hc.2.1 hc.1 r .nil).monoD (LeD.hidden List.mem_cons_self)
        have hx : StoreR X.K _ ⟨c2 ++ [some p], h1⟩ (S' ++ [.dic (mergeD ks xs [])]) := sr2.expose hDh (.dic upd_same (rm.monoD LeD.expose)) (by rw [← sr2.len]; exact rm.belows)
        refine oo ⟨c2 ++ [some p], h1⟩ _ (.ref p) ((le2.exposed hp).wrote hp hDh) hx (.ref ?_ fun a ha => ?_)
        · have := sr'.len
          show S'.length < (c2 ++ [some p]).length
          simp at this ⊢
          omega
        · have hl : c2.length = S'.length := sr'.len
          have ha' : (c2 ++ [some p])[S'.length]? = some (some a) := ha
          rw [← hl, List.getElem?_append_right (Nat.le_refl _)] at ha'
          simp at ha'
          rw [ha']
    · rw [if_neg hc] at oo; exact oo.elim
end
end Pf

set_option linter.all false
set_option Elab.async false
set_option maxRecDepth 100000
set_option autoImplicit false
namespace Pf
open PySem PySem.Spec PyProof.Rows L2
section
variable {G : Gm}
theorem se_bad {pe : Expr} (pl : Plain pe) : SE G pe .bad := by
  refine ⟨fun X W c => ⟨fun pins s σ H Q I ⟨ρ, S, loc, er, sr, o⟩ => ?_⟩, fun X W c => ⟨fun pins s σ H Q I ⟨ρ, S, loc, er, sr, o⟩ => ?_⟩, pl⟩
  · rw [ev] at o; exact (show False from o).elim
  · rw [ev] at o; exact (show False from o).elim
theorem opL_nx (op : Op) : ∀ x y S, ∀ c fs S', opL op x y S ≠ .exc c fs S' := by
  intro x y S c fs S' h
  unfold opL at h
  repeat (split at h <;> try cases h)
theorem se_binL {op : Operator} {o : Op} {a b : Expr} {ea eb : E} {pos : Pos} (ho : ∀ X : Cx, OpR X (binaryOp op) (rV2 X.K (opL o))) (ha : SE G a ea) (hb : SE G b eb) : SE G (.BinOp a op b pos) (.binL o ea eb) :=
  se_val (fun X W c => ⟨fun pins s σ H Q I ⟨ρ, S, loc, er, sr, h⟩ => (pe_op (ho X) (ha.hv X W c) (hb.hv X W c)).run pins s σ H Q I (two (by rw [ev]) er sr (opL_nx o) h)⟩) (fun _ _ => rfl) ⟨fun _ _ => rfl, fun _ _ => rfl, fun _ _ => rfl, fun _ _ => rfl, fun _ => rfl⟩
theorem relDs_asc {K : PySem.W.Frag} {H : Hp} {loc : Loc} : ∀ (n : Nat) (lo : Int), RelDs K H loc (ascend lo n) ((List.range n).map fun i => V.int (lo + (i : Nat)))
  | 0, _ => .nil
  | n + 1, lo => by
    rw [List.range_succ_eq_map, List.map_cons, List.map_map]
    refine .cons (by simpa using RelD.int _) ?_
    have := relDs_asc (K := K) (H := H) (loc := loc) n (lo + 1)
    refine (congrArg (RelDs K H loc (ascend (lo + 1) n)) (List.map_congr_left fun i _ => ?_)).mp this
    show V.int _ = V.int _
    congr 1
    simp only [Nat.succ_eq_add_one]
    push_cast
    omega
theorem se_lrng {m : Bool} {a : Expr} {ea : E} {p q pos pos2 : Pos} (hb : ("range" : Str) ∈ G.bi) (hg : GlS G "range") (hb2 : ("list" : Str) ∈ G.bi) (hg2 : GlS G "list") (ha : SE G a ea) :
    SE G (.Call (.Name "list" p) [.Call (.Name "range" q) [a] [] pos2] [] pos) (.lrng m ea) := by
  refine se_val (fun X W c => ⟨fun pins s σ H Q I ⟨ρ, S, loc, er, sr, o⟩ => ?_⟩) (fun _ _ => rfl) ⟨fun _ _ => rfl, fun _ _ => rfl, fun _ _ => rfl, fun _ _ => rfl, fun _ => rfl⟩
  refine (pe_listRg (te := tRg1 (rdE X G W ea)) c.calm (c.gl hg2) (c.bis _ hb2) (prg_1 (c.gl hg) (c.bis _ hb) (ha.hv X W c) (ha.pl.star _ _)) rfl).run pins s σ H Q I ?_
  rw [ev] at o
  refine ⟨ρ, S, loc, er, sr, Out.bind o fun d S' loc' H' v e' le sr' r o' => ?_⟩
  cases r with
  | int i =>
    by_cases hs : small i = true
    · simp only [hs, if_true] at o'
      have b := small_b hs
      have b2 : i ≤ 2 ^ 24 := of_decide_eq_true (Bool.and_eq_true_iff.mp hs).2
      refine ⟨i, rfl, ?_⟩
      refine ⟨⟨by omega, by omega, by omega, by omega, by omega⟩, fun p hp => ?_⟩
      have rr := relDs_asc (K := X.K) (H := H') (loc := loc') (i - 0).toNat 0
      rw [Int.sub_zero] at rr
      have e0 : rgV 0 i = (List.range i.toNat).map fun j => V.int (0 + (j : Nat)) := by unfold rgV; rw [Int.sub_zero]
      rw [e0]
      exact Out.mk o' sr' rr hp
    · simp only [hs] at o'; exact o'.elim
  | _ => exact o'.elim
end
end Pf

set_option linter.all false
set_option Elab.async false
set_option maxRecDepth 100000
set_option autoImplicit false
/-! PfStm: statements -/
namespace Pf
open PySem PySem.Spec PyProof.Rows L2
section
variable {G : Gm}
theorem se_dic0 {pos : Pos} : SE G (.Dict [] [] pos) (.dic [] .nil) := by
  refine se_val (fun X W c => ⟨fun pins s σ H Q I ⟨ρ, S, loc, er, sr, o⟩ => ?_⟩) (fun _ _ => rfl) ⟨fun _ _ => rfl, fun _ _ => rfl, fun _ _ => rfl, fun _ _ => rfl, fun _ => rfl⟩
  refine pe_dnewK.run pins s σ H Q I fun p hp => ?_
  rw [ev, evs] at o
  have o' : Out X.K G.C (fun c d H' => W c d σ H') (RD X.K) loc H (.ok (.ref S.length) (S ++ [.dic []])) Q := o
  have le : Le loc H (loc.push p) (upd H p (.dK [])) := Le.alloc sr hp
  exact o' _ _ _ le (sr.alloc hp (.dic upd_same .nil) rfl) (RelD.new sr.len)

/-! ### what is wanted behind a statement -/
abbrev wx (W : XW) : WX := fun c d _ H => W c d H
def OutS (K : PySem.W.Frag) (C : Clss) (W : XW) (loc : Loc) (H : Hp) (r : R Fl) (D : Ends) : Prop := match r with
  | .ok (.nx ρ') S' => ∀ loc' H' σ', Le loc H loc' H' → StoreR K H' loc' S' → EnvR K H' loc' ρ' σ' → D.nx σ' H'
  | .ok (.rt d) S' => ∀ loc' H' v, Le loc H loc' H' → StoreR K H' loc' S' → RelD K H' loc' d v → D.rt v H'
  | .exc c fs S' => ∀ loc' H' cls d, Le loc H loc' H' → StoreR K H' loc' S' → XRel K C loc' H' c fs cls d → W cls d H'
  | .no => False
theorem OutS.later {K : PySem.W.Frag} {C : Clss} {W : XW} {loc loc1 : Loc} {H H1 : Hp} {r : R Fl} {D : Ends} (h : OutS K C W loc H r D) (le : Le loc H loc1 H1) : OutS K C W loc1 H1 r D := by
  cases r with
  | ok f S' =>
    cases f with
    | nx ρ => exact fun loc' H' σ' le' s e => h loc' H' σ' (le.trans le') s e
    | rt d => exact fun loc' H' v le' s r => h loc' H' v (le.trans le') s r
  | exc c fs S' => exact fun loc' H' cls d le' s x => h loc' H' cls d (le.trans le') s x
  | no => exact h
/-- an expression's part, then the rest -/
theorem OutS.bind {α β : Type} {K : PySem.W.Frag} {C : Clss} {W : XW} {loc : Loc} {H : Hp} {m : M α} {f : α → M Fl} {rel : Loc → Hp → α → β → Prop} {D : Ends} {Q' : β → Hp → Prop} {S : Store} (h : OutS K C W loc H ((m >>= f) S) D)
    (k : ∀ a S' loc' H' b, m S = .ok a S' → Le loc H loc' H' → StoreR K H' loc' S' → rel loc' H' a b → OutS K C W loc' H' (f a S') D → Q' b H') : Out K C W rel loc H (m S) Q' := by
  have e : (m >>= f) S = M.bind m f S := rfl
  rw [e] at h
  unfold M.bind at h
  cases q : m S with
  | ok a S' =>
    rw [q] at h
    exact fun loc' H' b le s r => k a S' loc' H' b q le s r (OutS.later h le)
  | exc c fs S' => rw [q] at h; exact h
  | no => rw [q] at h; exact h
def rdS (X : Cx) (G : Gm) (W : XW) (st : St) : TS := fun D σ H => ∃ ρ S loc, EnvR X.K H loc ρ σ ∧ StoreR X.K H loc S ∧ OutS X.K G.C W loc H (exec G.cl st ρ S) D
structure S1 (G : Gm) (py : Stmt) (st : St) : Prop where
  h : ∀ X W, CxOk G (wx W) X → PassesOwn (model X.prog X.w) X.A X.env X.xe → PS X py (rdS X G W st)
structure SS (G : Gm) (py : List Stmt) (st : St) : Prop where
  h : ∀ X W, CxOk G (wx W) X → PassesOwn (model X.prog X.w) X.A X.env X.xe → PSs X py (rdS X G W st)
theorem PS_imp {X : Cx} {st : Stmt} {t t' : TS} (h : PS X st t) (f : ∀ D σ H, t' D σ H → t D σ H) : PS X st t' := ⟨fun pins s σ H D I q => h.run pins s σ H D I (f D σ H q)⟩
theorem PSs_imp {X : Cx} {st : List Stmt} {t t' : TS} (h : PSs X st t) (f : ∀ D σ H, t' D σ H → t D σ H) : PSs X st t' := ⟨fun pins s σ H D I q => h.run pins s σ H D I (f D σ H q)⟩
theorem ss_nil : SS G [] .skip := ⟨fun X W c hp => PSs_imp pss_nil fun D σ H ⟨ρ, S, loc, er, sr, o⟩ => by
  rw [exec] at o
  exact o loc H σ Le.refl sr er⟩
theorem ss_cons {a : Stmt} {r : List Stmt} {sa sb : St} (ha : S1 G a sa) (hb : SS G r sb) : SS G (a :: r) (.seq sa sb) := ⟨fun X W c hp => PSs_imp (pss_cons (ha.h X W c hp) (hb.h X W c hp)) fun D σ H ⟨ρ, S, loc, er, sr, o⟩ => by
  refine ⟨ρ, S, loc, er, sr, ?_⟩
  have o' : OutS X.K G.C W loc H (M.bind (exec G.cl sa ρ) (fun r => match r with | .nx ρ' => exec G.cl sb ρ' | .rt d => pure (.rt d)) S) D := by
    rw [exec] at o; exact o
  unfold M.bind at o'
  cases q : exec G.cl sa ρ S with
  | ok f S' =>
    rw [q] at o'
    cases f with
    | nx ρ' => exact fun loc' H' σ' le s e => ⟨ρ', S', loc', e, s, OutS.later o' le⟩
    | rt d => exact o'
  | exc c fs S' => rw [q] at o'; exact o'
  | no => rw [q] at o'; exact o'⟩
theorem s1_pass {pos : Pos} : S1 G (.Pass pos) .skip := ⟨fun X W c hp => PS_imp ps_pass fun D σ H ⟨ρ, S, loc, er, sr, o⟩ => by
  rw [exec] at o
  exact o loc H σ Le.refl sr er⟩
theorem s1_ret {e : Expr} {ee : E} {pos : Pos} (he : SE G e ee) : S1 G (.Return (some e) pos) (.ret ee) := ⟨fun X W c hp => PS_imp (ps_ret (he.hv X _ c)) fun D σ H ⟨ρ, S, loc, er, sr, o⟩ => by
  rw [exec] at o
  exact ⟨ρ, S, loc, er, sr, OutS.bind o fun d S' loc' H' v e' le sr' r o' => o' loc' H' v Le.refl sr' r⟩⟩
def isComp : Expr → Bool
  | .ListComp .. => true
  | .SetComp .. => true
  | .DictComp .. => true
  | _ => false
theorem noComp {e : Expr} (h : isComp e = false) : NoComp e := fun t l env => by
  cases e with
  | ListComp => cases h
  | SetComp => cases h
  | DictComp => cases h
  | _ => rfl
theorem s1_ex {e : Expr} {ee : E} {pos : Pos} (he : SE G e ee) (hn : NoComp e) : S1 G (.Expr e pos) (.ex ee) := ⟨fun X W c hp => PS_imp (ps_expr (he.hv X _ c) (hn _ _ _)) fun D σ H ⟨ρ, S, loc, er, sr, o⟩ => by
  rw [exec] at o
  exact ⟨ρ, S, loc, er, sr, OutS.bind o fun d S' loc' H' v e' le sr' r o' => o' loc' H' σ Le.refl sr' (er.mono le)⟩⟩
theorem s1_if {c : Expr} {a b : List Stmt} {ec : E} {sa sb : St} {pos : Pos} (hc : SE G c ec) (ha : SS G a sa) (hb : SS G b sb) : S1 G (.If c a b pos) (.ifs ec sa sb) := ⟨fun X W cx hp => PS_imp (ps_if (hc.ht X _ cx) (ha.h X W cx hp) (hb.h X W cx hp)) fun D σ H ⟨ρ, S, loc, er, sr, o⟩ => by
  rw [exec] at o
  refine ⟨ρ, S, loc, er, sr, OutS.bind o fun b S' loc' H' b' e' le sr' r o' => ?_⟩
  cases r
  cases b with
  | true => exact ⟨ρ, S', loc', er.mono le, sr', o'⟩
  | false => exact ⟨ρ, S', loc', er.mono le, sr', o'⟩⟩
/-! ### targets of assignments -/
abbrev RE (K : PySem.W.Frag) : Loc → Hp → Ev → L2.St → Prop := fun loc H ρ σ => EnvR K H loc ρ σ
def rdTg (X : Cx) (G : Gm) (W : XW) (t : Tg) : TG := fun v σ H Q => ∃ ρ S loc d, EnvR X.K H loc ρ σ ∧ StoreR X.K H loc S ∧ RelD X.K H loc d v ∧ Out X.K G.C W (RE X.K) loc H (bindT G.cl t d ρ S) Q
def rdTgs (X : Cx) (G : Gm) (W : XW) (ts : List Tg) : TGs := fun vs σ H Q => ∃ ρ S loc ds, EnvR X.K H loc ρ σ ∧ StoreR X.K H loc S ∧ RelDs X.K H loc ds vs ∧ Out X.K G.C W (RE X.K) loc H (bindTs G.cl ts ds ρ S) Q
structure ST (G : Gm) (tg : Expr) (t : Tg) : Prop where
  hg : ∀ X W, CxOk G (wx W) X → PG X tg (rdTg X G W t)
  ns : ∀ es env, assignEach (tg :: es) env = (false, assign tg env) :: assignEach es env
structure STs (G : Gm) (tgs : List Expr) (ts : List Tg) : Prop where
  hg : ∀ X W, CxOk G (wx W) X → PGs X tgs (rdTgs X G W ts)
  len : ∀ env, (assignEach tgs env).length = ts.length
  fi : ∀ env, (assignEach tgs env).findIdx? (·.1) = none
theorem st_name {i : Nat} {x : Str} {pos : Pos} (hi : G.N[i]? = some x) (hx : L2.Loc G.sc x) (hf : G.fc x = true ∨ G.sc.names.lookup x = some .local) : ST G (.Name x pos) (.name i) := by
  refine ⟨fun X W c => PG_imp (pg_name (X := X) (i := i) (by rw [c.hN]; exact c.nd) (by rw [c.hN]; exact hi) (by rw [c.hsc]; exact hx) (by rw [c.hsc, c.hfc]; exact hf)) fun v σ H Q h => ?_, fun _ _ => rfl⟩
  obtain ⟨ρ, S, loc, d, er, sr, r, o⟩ := h
  rw [bindT] at o
  by_cases hl : i < ρ.length
  · simp only [hl, if_true] at o
    exact o.pure sr (er.set r)
  · simp only [hl, if_false] at o; exact o.elim
theorem sts_nil : STs G [] [] := by
  refine ⟨fun X W c => PGs_imp pgs_nil fun v σ H Q h => ?_, fun _ => rfl, fun _ => rfl⟩
  obtain ⟨ρ, S, loc, ds, er, sr, r, o⟩ := h
  cases r with
  | nil => rw [bindTs] at o; exact ⟨rfl, o.pure sr er⟩
  | cons _ _ => exact (show False from o).elim
theorem sts_cons {a : Expr} {as : List Expr} {t : Tg} {ts : List Tg} (h1 : ST G a t) (h2 : STs G as ts) : STs G (a :: as) (t :: ts) := by
  refine ⟨fun X W c => PGs_imp (pgs_cons (h1.hg X W c) (h2.hg X W c) (by rw [h1.ns] <;> rfl)) fun v σ H Q h => ?_, fun env => ?_, fun env => ?_⟩
  · obtain ⟨ρ, S, loc, ds, er, sr, r, o⟩ := h
    cases r with
    | nil => exact (show False from o).elim
    | @cons d v' ds vs rd rs =>
      rw [bindTs] at o
      exact ⟨_, _, rfl, ρ, S, loc, d, er, sr, rd, Out.bind o fun ρ' S' loc' H' σ' e' le sr' er' o' => ⟨ρ', S', loc', ds, er', sr', rs.mono le, o'⟩⟩
  · rw [h1.ns, List.length_cons, h2.len, List.length_cons]
  · rw [h1.ns, List.findIdx?_cons]
    simp [h2.fi]
theorem bindTs_len (cl : Nat → List D → M D) : ∀ (ts : List Tg) (ds : List D) (ρ : Ev) (S : Store), bindTs cl ts ds ρ S ≠ .no → (∀ c fs S', bindTs cl ts ds ρ S ≠ .exc c fs S') → ds.length = ts.length
  | [], [], _, _, _, _ => rfl
  | [], _ :: _, ρ, S, h, _ => absurd (show _ = R.no from rfl) h
  | _ :: _, [], ρ, S, h, _ => absurd (show _ = R.no from rfl) h
  | t :: ts, d :: ds, ρ, S, h, hx => by
    rw [bindTs] at h hx
    have h' : M.bind (bindT cl t d ρ) (fun ρ' => bindTs cl ts ds ρ') S ≠ .no := h
    have hx' : ∀ c fs S', M.bind (bindT cl t d ρ) (fun ρ' => bindTs cl ts ds ρ') S ≠ .exc c fs S' := hx
    unfold M.bind at h' hx'
    cases q : bindT cl t d ρ S with
    | ok ρ1 S1 =>
      rw [q] at h' hx'
      rw [List.length_cons, List.length_cons, bindTs_len cl ts ds ρ1 S1 h' hx']
    | exc c fs S1 => rw [q] at hx'; exact absurd rfl (hx' _ _ _)
    | no => rw [q] at h'; exact absurd rfl h'
/-- unpacking: the lengths agree, or what is unpacked raises within -/
theorem st_tup {es : List Expr} {ts : List Tg} {k : Nat} {pos : Pos} (h : STs G es ts) (hx : ∀ (cl : Nat → List D → M D) ds ρ S c fs S', bindTs cl ts ds ρ S ≠ .exc c fs S') : ST G (.Tuple es k pos) (.tup ts) := by
  refine ⟨fun X W c => PG_imp (pg_tup c.calm (h.hg X W c) (h.len _) (h.fi _)) fun v σ H Q hh => ?_, fun _ _ => rfl⟩
  obtain ⟨ρ, S, loc, d, er, sr, r, o⟩ := hh
  cases d with
  | tup ds =>
    have o' : Out X.K G.C W (RE X.K) loc H (bindTs G.cl ts ds ρ S) Q := o
    obtain ⟨a, xs, rfl, hq, rs⟩ := r.tupAt
    refine ⟨a, xs, rfl, hq, ?_, ρ, S, loc, ds, er, sr, rs, o'⟩
    rw [← rs.length]
    refine bindTs_len G.cl ts ds ρ S (fun q => ?_) (hx _ _ _ _)
    rw [q] at o'; exact o'.elim
  | _ => exact (show False from o).elim
def isSl : Expr → Bool
  | .Slice .. => true
  | _ => false
theorem st_sub {a b : Expr} {ea eb : E} {pos : Pos} (ha : SE G a ea) (hb : SE G b eb) (hsl : isSl b = false) : ST G (.Subscript a b pos) (.sub ea eb) := by
  refine ⟨fun X W c => PG_imp (pg_sub (ha.hv X _ c) (hb.hv X _ c) (setF_ok c.un) (fun _ => ?_)) fun v σ H Q h => ?_, fun _ _ => rfl⟩
  · cases b with
    | Slice => cases hsl
    | _ => rfl
  · obtain ⟨ρ, S, loc, d, er, sr, r, o⟩ := h
    rw [bindT] at o
    refine ⟨ρ, S, loc, er, sr, Out.bind o fun x S1 loc1 H1 vx e1 le1 sr1 rx o1 => ?_⟩
    refine ⟨ρ, S1, loc1, er.mono le1, sr1, Out.bind o1 fun y S2 loc2 H2 vy e2 le2 sr2 ry o2 => ?_⟩
    refine ⟨loc2, S2, x, y, d, sr2, rx.mono le2, ry, (r.mono le1).mono le2, ?_⟩
    have o3 : Out X.K G.C W (RE X.K) loc2 H2 (M.bind (setF x y d) (fun _ => M.pure ρ) S2) Q := o2
    unfold M.bind at o3
    have nx : ∀ c fs S', setF x y d S2 ≠ .exc c fs S' := fun c fs S' h => by
      unfold setF at h
      repeat (split at h <;> try cases h)
    cases q : setF x y d S2 with
    | ok u S' =>
      rw [q] at o3
      exact fun loc' H' le s => o3 loc' H' σ le s (((er.mono le1).mono le2).mono le)
    | exc c fs S' => exact absurd q (nx _ _ _)
    | no => rw [q] at o3; exact o3.elim
/-! ### assignments -/
theorem sole_false {tg e : Expr} {l : Nat} {env : Env} (h : isComp e = false) : swapsWithSole [tg] e l env = pure false := noComp h (some tg) l env
theorem s1_asg {tg e : Expr} {t : Tg} {ee : E} {pos : Pos} (ht : ST G tg t) (he : SE G e ee) (hs : ∀ env, env.scope = G.sc → swapsWithSole [tg] e pos.line env = pure false) (hw : ∀ env, env.scope = G.sc → swappedStores [tg] e env = pure none) : S1 G (.Assign [tg] e pos) (.asg t ee) :=
  ⟨fun X W c hp => PS_imp (ps_asg (he.hv X _ c) (ht.hg X W c) (hs _ c.hsc) (hw _ c.hsc) (by rw [ht.ns] <;> rfl)) fun D σ H ⟨ρ, S, loc, er, sr, o⟩ => by
    rw [exec] at o
    refine ⟨ρ, S, loc, er, sr, OutS.bind o fun d S' loc' H' v e' le sr' r o' => ⟨ρ, S', loc', d, er.mono le, sr', r, OutS.bind o' fun ρ' S2 loc2 H2 σ2 e2 le2 sr2 er2 o2 => o2 loc2 H2 σ2 Le.refl sr2 er2⟩⟩⟩
/-- name = value -/
theorem s1_set {x : Str} {i : Nat} {e : Expr} {ee : E} {px pos : Pos} (hi : G.N[i]? = some x) (hx : L2.Loc G.sc x) (hf : G.fc x = true ∨ G.sc.names.lookup x = some .local) (he : SE G e ee) (hs : ∀ env, env.scope = G.sc → swapsWith e (some (.Name x px)) pos.line env = pure false) : S1 G (.Assign [.Name x px] e pos) (.asg (.name i) ee) :=
  s1_asg (st_name hi hx hf) he hs fun env _ => rfl
/-- name = [comprehension], stored in the block's end -/
theorem s1_setLc {x : Str} {i : Nat} {elt tg iter : Expr} {ifs : List Expr} {scope : Scope} {own : List (Str × Nat)} {ps px pos : Pos} {m : Bool} {p : Pt} {src : Sc} {c : Oe} {e : E} (hy : G.N[i]? = some x) (hyl : G.sc.names.lookup x = some .local) (hk : G.sc.kind = .function) (hl : (px.line == ps.line) = true)
    (ha : (scope.names.any fun (n, k) => n == x && (k == .local || k == .cell)) = false) (hi : SI G tg iter src) (ok : BlkOk G.N G.sc scope own) (hsl : ∀ i ∈ slots p, i ∈ own.map (·.2))
    (hg : SG (G.blk scope) tg p) (ht : SC (G.blk scope) ifs c) (he : SE (G.blk scope) elt e) : S1 G (.Assign [.Name x px] (.ListComp elt [⟨tg, iter, ifs, 0⟩] scope ps) pos) (.asg (.name i) (.comp m (own.map (·.2)) p src c e)) :=
  ⟨fun X W cx hp => PS_imp (ps_setLc (X := X) cx.calm (by rw [cx.hN]; exact cx.nd) (by rw [cx.hN]; exact hy) (by rw [cx.hsc]; exact hyl) (sw_true (by rw [cx.hsc]; exact hk) (by rw [cx.hsc]; exact hyl) hl ha) (hi.hi X _ cx) (by rw [cx.hN, cx.hsc]; exact ok)
      (fun s H C cl fp => hg.hg _ _ (cx.blk scope s H C cl fp)) (fun s H C cl fp => ht.ht _ _ (cx.blk scope s H C cl fp)) (fun s H C cl fp => he.hv _ _ (cx.blk scope s H C cl fp)) (hi.fold X.env)) fun D σ H ⟨ρ, S, loc, er, sr, o⟩ => by
    rw [exec] at o
    refine rd_comp (G.blk scope) rfl rfl hsl ⟨ρ, S, loc, er, sr, OutS.bind o fun d S' loc' H' v e' le sr' r o' => ?_⟩
    rw [bindT] at o'
    by_cases hl : i < ρ.length
    · simp only [hl, if_true] at o'
      exact o' loc' H' _ Le.refl sr' ((er.mono le).set r)
    · simp only [hl, if_false] at o'; exact o'.elim⟩
theorem M_assoc {α β γ : Type} (m : M α) (f : α → M β) (g : β → M γ) : M.bind (M.bind m f) g = M.bind m fun a => M.bind (f a) g := by
  funext S
  unfold M.bind
  cases m S <;> rfl
/-- a, b = x, y by a swap -/
theorem s1_par {x y : Str} {i j : Nat} {a b : Expr} {ea eb : E} {px py pt p2 pos : Pos} {kt k2 : Nat} (hi : G.N[i]? = some x) (hj : G.N[j]? = some y) (hij : i ≠ j) (hx : G.sc.names.lookup x = some .local) (hy : G.sc.names.lookup y = some .local)
    (ha : SE G a ea) (hb : SE G b eb) (hw : ∀ env, env.scope = G.sc → swappedStores [.Tuple [.Name x px, .Name y py] kt pt] (.Tuple [a, b] k2 p2) env = pure (some [x, y])) :
    S1 G (.Assign [.Tuple [.Name x px, .Name y py] kt pt] (.Tuple [a, b] k2 p2) pos) (.asg (.tup [.name i, .name j]) (.tup (.cons ea (.cons eb .nil)))) :=
  ⟨fun X W c hp => PS_imp (ps_par (X := X) c.calm (by rw [c.hN]; exact c.nd) (by rw [c.hN]; exact hi) (by rw [c.hN]; exact hj) hij (by rw [c.hsc]; exact hx) (by rw [c.hsc]; exact hy) ((sa_cons ha (sa_cons hb sa_nil)).pa X _ c) (hw _ c.hsc)) fun D σ H ⟨ρ, S, loc, er, sr, o⟩ => by
    rw [exec] at o
    have e2 : (ev G.cl (.tup (.cons ea (.cons eb .nil))) ρ >>= fun x => (bindT G.cl (.tup [.name i, .name j]) x ρ >>= fun ρ' => (pure (.nx ρ') : M Fl))) =
        (evs G.cl (.cons ea (.cons eb .nil)) ρ >>= fun xs => (need (decide (xs.length ≤ LINE)) >>= fun _ => (bindT G.cl (.tup [.name i, .name j]) (.tup xs) ρ >>= fun ρ' => (pure (.nx ρ') : M Fl)))) := by
      rw [ev]
      exact (M_assoc _ _ _).trans (congrArg (M.bind _) (funext fun xs => M_assoc _ _ _))
    rw [e2] at o
    refine ⟨ρ, S, loc, er, sr, OutS.bind o fun ds S' loc' H' vs e' le sr' r o' => ?_⟩
    have o1 : OutS X.K G.C W loc' H' (M.bind (need (decide (ds.length ≤ LINE))) (fun _ => M.bind (bindT G.cl (.tup [.name i, .name j]) (.tup ds) ρ) fun ρ' => M.pure (Fl.nx ρ')) S') D := o'
    by_cases hz : ds.length ≤ LINE
    · have o2 : OutS X.K G.C W loc' H' (M.bind (bindTs G.cl [.name i, .name j] ds ρ) (fun ρ' => M.pure (Fl.nx ρ')) S') D := by
        have e3 : need (decide (ds.length ≤ LINE)) = (pure () : M Unit) := by simp [need, hz]
        rw [e3] at o1
        exact o1
      match ds, r, o2 with
      | [d1, d2], .cons r1 (.cons r2 .nil), o2 =>
        refine ⟨_, _, rfl, ?_⟩
        by_cases h1 : i < ρ.length
        · by_cases h2 : j < ρ.length
          · have o3 : OutS X.K G.C W loc' H' (.ok (.nx ((ρ.set i (some d1)).set j (some d2))) S') D := by
              have e4 : M.bind (bindTs G.cl [.name i, .name j] [d1, d2] ρ) (fun ρ' => M.pure (Fl.nx ρ')) S' = .ok (.nx ((ρ.set i (some d1)).set j (some d2))) S' := by
                simp [bindTs, bindT, h1, h2, M.bind, M.pure, bind, Pure.pure]
              rw [← e4]; exact o2
            exact o3 loc' H' _ Le.refl sr' (((er.mono le).set r1).set r2)
          · exfalso
            have e4 : M.bind (bindTs G.cl [.name i, .name j] [d1, d2] ρ) (fun ρ' => M.pure (Fl.nx ρ')) S' = .no := by
              simp [bindTs, bindT, h1, h2, M.bind, M.pure, bind, Pure.pure, no]
            rw [e4] at o2; exact o2
        · exfalso
          have e4 : M.bind (bindTs G.cl [.name i, .name j] [d1, d2] ρ) (fun ρ' => M.pure (Fl.nx ρ')) S' = .no := by
            simp [bindTs, bindT, h1, M.bind, M.pure, bind, Pure.pure, no]
          rw [e4] at o2; exact o2
      | [], _, o2 => exact (show False from o2).elim
      | [d1], _, o2 =>
        exfalso
        have e4 : M.bind (bindTs G.cl [.name i, .name j] [d1] ρ) (fun ρ' => M.pure (Fl.nx ρ')) S' = .no := by
          by_cases h1 : i < ρ.length <;> simp [bindTs, bindT, h1, M.bind, M.pure, bind, Pure.pure, no]
        rw [e4] at o2; exact o2
      | d1 :: d2 :: d3 :: t, _, o2 =>
        exfalso
        have e4 : M.bind (bindTs G.cl [.name i, .name j] (d1 :: d2 :: d3 :: t) ρ) (fun ρ' => M.pure (Fl.nx ρ')) S' = .no := by
          by_cases h1 : i < ρ.length <;> by_cases h2 : j < ρ.length <;> simp [bindTs, bindT, h1, h2, M.bind, M.pure, bind, Pure.pure, no]
        rw [e4] at o2; exact o2
    · have e3 : need (decide (ds.length ≤ LINE)) = (no : M Unit) := by simp [need, hz]
      rw [e3] at o1
      exact (show False from o1).elim⟩
end
end Pf

set_option linter.all false
set_option Elab.async false
set_option maxRecDepth 100000
set_option autoImplicit false
namespace Pf
open PySem PySem.Spec PyProof.Rows L2
section
variable {G : Gm}
def bodyF (cl : Nat → List D → M D) (p : Pt) (b : St) (d : D) (ρ : Ev) : M Fl := match bindP p d ρ with
  | none => no
  | some ρ' => exec cl b ρ'
theorem exec_for (cl : Nat → List D → M D) (p : Pt) (src : Sc) (b : St) (ρ : Ev) : exec cl (.for p src b) ρ = (evI cl src ρ >>= fun items => forF (bodyF cl p b) items ρ) := by
  rw [exec]; rfl
theorem s1_for {tg iter : Expr} {body : List Stmt} {p : Pt} {src : Sc} {b : St} {pos : Pos} (hi : SI G tg iter src) (hg : SG G tg p) (hb : SS G body b) : S1 G (.For tg iter body [] pos) (.for p src b) :=
  ⟨fun X W c hp => PS_imp (ps_for hp c.calm (hi.hi X _ c) (hg.hg X _ c) (hb.h X W c hp) (hi.fold X.env)) fun Dn σ H ⟨ρ, S, loc, er, sr, o⟩ => by
    rw [exec_for] at o
    refine ⟨ρ, S, loc, er, sr, OutS.bind o fun items S1 loc1 H1 J e1 le1 sr1 wk o1 => ?_⟩
    refine ⟨fun i m σ H => ∃ ρ S loc, m = items.length - i ∧ i ≤ items.length ∧ Le loc1 H1 loc H ∧ EnvR X.K H loc ρ σ ∧ StoreR X.K H loc S ∧ OutS X.K G.C W loc H (forF (bodyF G.cl p b) (items.drop i) ρ S) Dn,
      ⟨items.length, ρ, S1, loc1, by simp, Nat.zero_le _, Le.refl, er.mono le1, sr1, by simpa using o1⟩, ?_⟩
    rintro i m σ H ⟨ρ, S, loc, rfl, hi, le, er, sr, o⟩
    by_cases hlt : i < items.length
    · have hdrop : items.drop i = items[i] :: items.drop (i + 1) := List.drop_eq_getElem_cons hlt
      rw [hdrop] at o
      have o2 : OutS X.K G.C W loc H (M.bind (bodyF G.cl p b items[i] ρ) (fun r => match r with | .nx ρ' => forF (bodyF G.cl p b) (items.drop (i + 1)) ρ' | .rt d => M.pure (.rt d)) S) Dn := o
      refine .inr ⟨wk.go _ _ S i le.d sr hlt, fun σ' H' => ∃ ρ S loc, i + 1 ≤ items.length ∧ Le loc1 H1 loc H' ∧ EnvR X.K H' loc ρ σ' ∧ StoreR X.K H' loc S ∧ OutS X.K G.C W loc H' (forF (bodyF G.cl p b) (items.drop (i + 1)) ρ S) Dn, ?_, ?_⟩
      · rintro σ' H' ⟨ρ, S, loc, r⟩
        exact ⟨items.length - (i + 1), by omega, ρ, S, loc, rfl, r⟩
      · intro x H' y
        obtain ⟨d, hd, le2, sr2, rx⟩ := wk.yld _ _ S i x H' le.d sr hlt y
        have hd' : d = items[i] := by
          rw [List.getElem?_eq_getElem hlt] at hd
          exact (Option.some.inj hd).symm
        subst hd'
        unfold M.bind bodyF at o2
        cases q : bindP p items[i] ρ with
        | none => rw [q] at o2; exact o2.elim
        | some ρ' =>
          rw [q] at o2
          refine ⟨ρ, S, loc, items[i], ρ', er.mono le2, sr2, rx, q, fun σ2 e2 _ => ⟨ρ', S, loc, e2, sr2, ?_⟩⟩
          simp only at o2
          cases q2 : exec G.cl b ρ' S with
          | ok f S2 =>
            rw [q2] at o2
            cases f with
            | nx ρ2 => exact fun loc' H2 σ' le' s e => ⟨ρ2, S2, loc', hlt, (le.trans le2).trans le', e, s, OutS.later o2 (le2.trans le')⟩
            | rt d => exact fun loc' H2 v le' s r => o2 loc' H2 v (le2.trans le') s r
          | exc ec fs S2 => rw [q2] at o2; exact fun loc' H2 cls d le' s x => o2 loc' H2 cls d (le2.trans le') s x
          | no => rw [q2] at o2; exact o2
    · have e : i = items.length := by omega
      subst e
      rw [List.drop_length] at o
      have o2 : OutS X.K G.C W loc H (.ok (.nx ρ) S) Dn := o
      exact .inl ⟨wk.stop _ _ S _ le.d sr (Nat.le_refl _), o2 loc H σ Le.refl sr er⟩⟩
theorem s1_while {t : Expr} {body : List Stmt} {et : E} {b : St} {pos : Pos} (ht : SE G t et) (hb : SS G body b) : S1 G (.While t body [] pos) (.whl et b) :=
  ⟨fun X W c hp => PS_imp (ps_while hp (ht.ht X _ c) (hb.h X W c hp)) fun Dn σ H ⟨ρ, S, loc, er, sr, o⟩ => by
    rw [exec] at o
    generalize WF = wf at o
    refine ⟨fun m σ H => ∃ ρ S loc, EnvR X.K H loc ρ σ ∧ StoreR X.K H loc S ∧ OutS X.K G.C W loc H (whlF (fun ρ => test (ev G.cl et ρ)) (fun ρ => exec G.cl b ρ) m ρ S) Dn, ⟨wf, ρ, S, loc, er, sr, o⟩, ?_⟩
    clear o er sr
    rintro m σ H ⟨ρ, S, loc, er, sr, o⟩
    cases m with
    | zero => exact (show False from o).elim
    | succ m =>
      have o2 : OutS X.K G.C W loc H ((test (ev G.cl et ρ) >>= fun b' => if b' then (exec G.cl b ρ >>= fun r => match r with | .nx ρ' => whlF (fun ρ => test (ev G.cl et ρ)) (fun ρ => exec G.cl b ρ) m ρ' | .rt d => pure (.rt d)) else pure (.nx ρ)) S) Dn := o
      refine ⟨ρ, S, loc, er, sr, OutS.bind o2 fun b' S' loc' H' b2 e' le sr' r o' => ?_⟩
      cases r
      cases b' with
      | false =>
        rw [if_neg Bool.false_ne_true]
        have o3 : OutS X.K G.C W loc' H' (.ok (.nx ρ) S') Dn := o'
        exact o3 loc' H' σ Le.refl sr' (er.mono le)
      | true =>
        rw [if_pos rfl]
        refine ⟨fun σ' H' => ∃ ρ S loc, EnvR X.K H' loc ρ σ' ∧ StoreR X.K H' loc S ∧ OutS X.K G.C W loc H' (whlF (fun ρ => test (ev G.cl et ρ)) (fun ρ => exec G.cl b ρ) m ρ S) Dn, fun σ' H' h => ⟨m, Nat.lt_succ_self _, h⟩, ρ, S', loc', er.mono le, sr', ?_⟩
        have o3 : OutS X.K G.C W loc' H' (M.bind (exec G.cl b ρ) (fun r => match r with | .nx ρ' => whlF (fun ρ => test (ev G.cl et ρ)) (fun ρ => exec G.cl b ρ) m ρ' | .rt d => M.pure (.rt d)) S') Dn := o'
        unfold M.bind at o3
        cases q2 : exec G.cl b ρ S' with
        | ok f S2 =>
          rw [q2] at o3
          cases f with
          | nx ρ2 => exact fun loc2 H2 σ' le' s e => ⟨ρ2, S2, loc2, e, s, OutS.later o3 le'⟩
          | rt d => exact o3
        | exc ec fs S2 => rw [q2] at o3; exact o3
        | no => rw [q2] at o3; exact o3⟩
end
end Pf

set_option linter.all false
set_option Elab.async false
set_option maxRecDepth 100000
set_option autoImplicit false
namespace Pf
open PySem PySem.Spec PyProof.Rows L2
section
variable {G : Gm}
theorem s1_stop {st : Stmt} : S1 G st .stop := ⟨fun X W c hp => ⟨fun pins s σ H D I ⟨ρ, S, loc, er, sr, o⟩ => by
  rw [exec] at o; exact (show False from o).elim⟩⟩
theorem s1_par3 {x y z : Str} {i j l : Nat} {a b d : Expr} {ea eb ed : E} {px py pz pt p2 pos : Pos} {kt k2 : Nat} (hi : G.N[i]? = some x) (hj : G.N[j]? = some y) (hl : G.N[l]? = some z) (hij : i ≠ j) (hil : i ≠ l) (hjl : j ≠ l)
    (hx : G.sc.names.lookup x = some .local) (hy : G.sc.names.lookup y = some .local) (hz : G.sc.names.lookup z = some .local)
    (ha : SE G a ea) (hb : SE G b eb) (hd : SE G d ed) (hw : ∀ env, env.scope = G.sc → swappedStores [.Tuple [.Name x px, .Name y py, .Name z pz] kt pt] (.Tuple [a, b, d] k2 p2) env = pure (some [x, y, z])) :
    S1 G (.Assign [.Tuple [.Name x px, .Name y py, .Name z pz] kt pt] (.Tuple [a, b, d] k2 p2) pos) (.asg (.tup [.name i, .name j, .name l]) (.tup (.cons ea (.cons eb (.cons ed .nil))))) :=
  ⟨fun X W c hp => PS_imp (ps_par3 (X := X) c.calm (by rw [c.hN]; exact c.nd) (by rw [c.hN]; exact hi) (by rw [c.hN]; exact hj) (by rw [c.hN]; exact hl) hij hil hjl (by rw [c.hsc]; exact hx) (by rw [c.hsc]; exact hy) (by rw [c.hsc]; exact hz) ((sa_cons ha (sa_cons hb (sa_cons hd sa_nil))).pa X _ c) (hw _ c.hsc)) fun D σ H ⟨ρ, S, loc, er, sr, o⟩ => by
    rw [exec] at o
    have e2 : (ev G.cl (.tup (.cons ea (.cons eb (.cons ed .nil)))) ρ >>= fun x => (bindT G.cl (.tup [.name i, .name j, .name l]) x ρ >>= fun ρ' => (pure (.nx ρ') : M Fl))) =
        (evs G.cl (.cons ea (.cons eb (.cons ed .nil))) ρ >>= fun xs => (need (decide (xs.length ≤ LINE)) >>= fun _ => (bindT G.cl (.tup [.name i, .name j, .name l]) (.tup xs) ρ >>= fun ρ' => (pure (.nx ρ') : M Fl)))) := by
      rw [ev]
      exact (M_assoc _ _ _).trans (congrArg (M.bind _) (funext fun xs => M_assoc _ _ _))
    rw [e2] at o
    refine ⟨ρ, S, loc, er, sr, OutS.bind o fun ds S' loc' H' vs e' le sr' r o' => ?_⟩
    have o1 : OutS X.K G.C W loc' H' (M.bind (need (decide (ds.length ≤ LINE))) (fun _ => M.bind (bindT G.cl (.tup [.name i, .name j, .name l]) (.tup ds) ρ) fun ρ' => M.pure (Fl.nx ρ')) S') D := o'
    by_cases hz : ds.length ≤ LINE
    · have o2 : OutS X.K G.C W loc' H' (M.bind (bindTs G.cl [.name i, .name j, .name l] ds ρ) (fun ρ' => M.pure (Fl.nx ρ')) S') D := by
        have e3 : need (decide (ds.length ≤ LINE)) = (pure () : M Unit) := by simp [need, hz]
        rw [e3] at o1
        exact o1
      by_cases h1 : i < ρ.length
      · by_cases h2 : j < ρ.length
        · by_cases h3 : l < ρ.length
          · match ds, r, o2 with
            | [d1, d2, d3], .cons r1 (.cons r2 (.cons r3 .nil)), o2 =>
              refine ⟨_, _, _, rfl, ?_⟩
              have o3 : OutS X.K G.C W loc' H' (.ok (.nx (((ρ.set i (some d1)).set j (some d2)).set l (some d3))) S') D := by
                have e4 : M.bind (bindTs G.cl [.name i, .name j, .name l] [d1, d2, d3] ρ) (fun ρ' => M.pure (Fl.nx ρ')) S' = .ok (.nx (((ρ.set i (some d1)).set j (some d2)).set l (some d3))) S' := by
                  simp [bindTs, bindT, h1, h2, h3, M.bind, M.pure, bind, Pure.pure]
                rw [← e4]; exact o2
              exact o3 loc' H' _ Le.refl sr' ((((er.mono le).set r1).set r2).set r3)
            | [], _, o2 => exact (show False from o2).elim
            | [d1], _, o2 =>
              exfalso
              have e4 : M.bind (bindTs G.cl [.name i, .name j, .name l] [d1] ρ) (fun ρ' => M.pure (Fl.nx ρ')) S' = .no := by
                simp [bindTs, bindT, h1, M.bind, M.pure, bind, Pure.pure, no]
              rw [e4] at o2; exact o2
            | [d1, d2], _, o2 =>
              exfalso
              have e4 : M.bind (bindTs G.cl [.name i, .name j, .name l] [d1, d2] ρ) (fun ρ' => M.pure (Fl.nx ρ')) S' = .no := by
                simp [bindTs, bindT, h1, h2, M.bind, M.pure, bind, Pure.pure, no]
              rw [e4] at o2; exact o2
            | d1 :: d2 :: d3 :: d4 :: ds, _, o2 =>
              exfalso
              have e4 : M.bind (bindTs G.cl [.name i, .name j, .name l] (d1 :: d2 :: d3 :: d4 :: ds) ρ) (fun ρ' => M.pure (Fl.nx ρ')) S' = .no := by
                simp [bindTs, bindT, h1, h2, h3, M.bind, M.pure, bind, Pure.pure, no]
              rw [e4] at o2; exact o2
          · exfalso
            have e4 : M.bind (bindTs G.cl [.name i, .name j, .name l] ds ρ) (fun ρ' => M.pure (Fl.nx ρ')) S' = .no := by
              rcases ds with _ | ⟨d1, _ | ⟨d2, _ | ⟨d3, ds⟩⟩⟩ <;> simp [bindTs, bindT, h1, h2, h3, M.bind, M.pure, bind, Pure.pure, no]
            rw [e4] at o2; exact o2
        · exfalso
          have e4 : M.bind (bindTs G.cl [.name i, .name j, .name l] ds ρ) (fun ρ' => M.pure (Fl.nx ρ')) S' = .no := by
            rcases ds with _ | ⟨d1, _ | ⟨d2, ds⟩⟩ <;> simp [bindTs, bindT, h1, h2, M.bind, M.pure, bind, Pure.pure, no]
          rw [e4] at o2; exact o2
      · exfalso
        have e4 : M.bind (bindTs G.cl [.name i, .name j, .name l] ds ρ) (fun ρ' => M.pure (Fl.nx ρ')) S' = .no := by
          rcases ds with _ | ⟨d1, ds⟩ <;> simp [bindTs, bindT, h1, M.bind, M.pure, bind, Pure.pure, no]
        rw [e4] at o2; exact o2
    · exfalso
      have e3 : need (decide (ds.length ≤ LINE)) = (no : M Unit) := by simp [need, hz]
      rw [e3] at o1
      exact o1⟩
end
end Pf

set_option linter.all false
set_option Elab.async false
set_option maxRecDepth 100000
set_option autoImplicit false
namespace Pf
open PySem PySem.Spec PyProof.Rows L2
mutual
theorem below_at {K : PySem.W.Frag} {H : Hp} {c : List (Option Addr)} {h : List Addr} {b : Nat} (hb : b ≤ c.length) : ∀ {d : D} {v : V}, RelD K H ⟨c, h⟩ d v → below b d = true → RelD K H ⟨c.take b, h⟩ d v
  | _, _, .non, _ => .non
  | _, _, .bl x, _ => .bl x
  | _, _, .int i, _ => .int i
  | _, _, .str s, _ => .str s
  | _, _, .tup f r, z => .tup ⟨f.1, fun m => f.2 (m.imp List.mem_of_mem_take id)⟩ (belows_at hb r z)
  | _, _, .tupK k r, z => .tupK k (belows_at hb r z)
  | _, _, .lst e n r, z => .lst e (fun m => n (m.imp List.mem_of_mem_take id)) (belows_at hb r z)
  | _, _, .scr k r, z => .scr (k.imp (fun f => ⟨f.1, fun m => f.2 (m.imp List.mem_of_mem_take id)⟩) id) (belows_at hb r z)
  | _, _, .ref (n := n) hn hr, z => by
    have hn' : n < b := of_decide_eq_true z
    refine .ref (by show n < (c.take b).length; rw [List.length_take]; omega) fun a e => hr a ?_
    have e' : (c.take b)[n]? = some (some a) := e
    rw [List.getElem?_take_of_lt hn'] at e'
    exact e'
theorem belows_at {K : PySem.W.Frag} {H : Hp} {c : List (Option Addr)} {h : List Addr} {b : Nat} (hb : b ≤ c.length) : ∀ {ds : List D} {vs : List V}, RelDs K H ⟨c, h⟩ ds vs → belows b ds = true → RelDs K H ⟨c.take b, h⟩ ds vs
  | _, _, .nil, _ => .nil
  | d :: ds, _, .cons r t, z => by
    have z' := Bool.and_eq_true_iff.mp (show (below b d && belows b ds) = true from z)
    exact .cons (below_at hb r z'.1) (belows_at hb t z'.2)
end
mutual
theorem fz_at {K : PySem.W.Frag} {H : Hp} {c : List (Option Addr)} {h : List Addr} {S : Store} {b : Nat} (hb : b ≤ c.length) (sr : StoreR K H ⟨c, h⟩ S) : ∀ {d : D} {v : V} {d' : D}, RelD K H ⟨c, h⟩ d v → fz S b d = some d' → RelD K H ⟨c.take b, h⟩ d' v
  | .non, _, _, .non, e => by cases e; exact .non
  | .bl x, _, _, .bl _, e => by cases e; exact .bl x
  | .int i, _, _, .int _, e => by cases e; exact .int i
  | .str s, _, _, .str _, e => by cases e; exact .str s
  | .tup l, _, d', .tup f r, e => by
    have e' : (fzs S b l).map .tup = some d' := e
    cases q : fzs S b l with
    | none => rw [q] at e'; cases e'
    | some l' =>
      rw [q] at e'
      cases e'
      exact .tup ⟨f.1, fun m => f.2 (m.imp List.mem_of_mem_take id)⟩ (fzs_at hb sr r q)
  | .tup l, _, d', .tupK k r, e => by
    have e' : (fzs S b l).map .tup = some d' := e
    cases q : fzs S b l with
    | none => rw [q] at e'; cases e'
    | some l' =>
      rw [q] at e'
      cases e'
      exact .tupK k (fzs_at hb sr r q)
  | .lst l, v, d', r, e => by
    have e' : (if belows b l = true then some (D.lst l) else none) = some d' := e
    by_cases z : belows b l = true
    · rw [if_pos z] at e'
      cases e'
      exact below_at hb r z
    · rw [if_neg z] at e'; cases e'
  | .scr l, v, d', r, e => by
    have e' : (if belows b l = true then some (D.scr l) else none) = some d' := e
    by_cases z : belows b l = true
    · rw [if_pos z] at e'
      cases e'
      exact below_at hb r z
    · rw [if_neg z] at e'; cases e'
  | .ref n, v, d', r, e => by
    have e' : (if n < b then some (D.ref n) else match S[n]? with
      | some (.lst l) => if belows b l = true then some (.lst l) else none
      | _ => none) = some d' := e
    by_cases z : n < b
    · rw [if_pos z] at e'
      cases e'
      exact below_at hb r (decide_eq_true z)
    · rw [if_neg z] at e'
      cases q : S[n]? with
      | none => rw [q] at e'; cases e'
      | some ob =>
        rw [q] at e'
        cases ob with
        | lst l =>
          by_cases z2 : belows b l = true
          · simp only [z2, if_true] at e'
            cases e'
            obtain ⟨a, xs, h1, h2, h3⟩ := sr.lst q
            cases r with
            | ref hn hr =>
              rw [hr a h1]
              refine .lst h2 ?_ (belows_at hb h3 z2)
              rintro (m | m)
              · obtain ⟨i, hi⟩ := List.getElem?_of_mem m
                have hi2 : i < b := by
                  have := (List.getElem?_eq_some_iff.mp hi).1
                  rw [List.length_take] at this
                  omega
                rw [List.getElem?_take_of_lt hi2] at hi
                have := sr.inj i n a hi h1
                omega
              · exact sr.dis a (List.mem_of_getElem? h1) m
          · simp only [z2] at e'; cases e'
        | _ => cases e'
theorem fzs_at {K : PySem.W.Frag} {H : Hp} {c : List (Option Addr)} {h : List Addr} {S : Store} {b : Nat} (hb : b ≤ c.length) (sr : StoreR K H ⟨c, h⟩ S) : ∀ {ds : List D} {vs : List V} {ds' : List D}, RelDs K H ⟨c, h⟩ ds vs → fzs S b ds = some ds' → RelDs K H ⟨c.take b, h⟩ ds' vs
  | [], _, _, .nil, e => by cases e; exact .nil
  | d :: ds, _, ds', .cons r t, e => by
    have e' : (match fz S b d, fzs S b ds with
      | some y, some ys => some (y :: ys)
      | _, _ => none) = some ds' := e
    cases q : fz S b d with
    | none => rw [q] at e'; cases e'
    | some y =>
      cases q2 : fzs S b ds with
      | none => rw [q, q2] at e'; cases e'
      | some ys =>
        rw [q, q2] at e'
        cases e'
        exact .cons (fz_at hb sr r q) (fzs_at hb sr t q2)
end
mutual
theorem below_le {a b : Nat} (h : a ≤ b) : ∀ {d : D}, below a d = true → below b d = true
  | .non, _ => rfl
  | .bl _, _ => rfl
  | .int _, _ => rfl
  | .str _, _ => rfl
  | .tup l, z => belows_le h (d := l) z
  | .lst l, z => belows_le h (d := l) z
  | .scr l, z => belows_le h (d := l) z
  | .ref n, z => decide_eq_true (Nat.lt_of_lt_of_le (of_decide_eq_true z) h)
theorem belows_le {a b : Nat} (h : a ≤ b) : ∀ {d : List D}, belows a d = true → belows b d = true
  | [], _ => rfl
  | x :: xs, z => by
    have z' := Bool.and_eq_true_iff.mp (show (below a x && belows a xs) = true from z)
    show (below b x && belows b xs) = true
    rw [below_le h z'.1, belows_le h z'.2] <;> rfl
end
section
variable {K : PySem.W.Frag} {H H' : Hp} {S : Store} {c : List (Option Addr)} {h : List Addr} {b : Nat} {loc : Loc}
theorem CellR.cut {o : Ob} {a : Option Addr} (hb : b ≤ c.length) (r : CellR K H ⟨c, h⟩ o a) (hw : obB b o = true) : CellR K H ⟨c.take b, h⟩ o a := by
  cases r with
  | dead => exact .dead
  | lst e r => exact .lst e (belows_at hb r hw)
  | @dic l a xs e r =>
    refine .dic e ?_
    have hw' : belows b (l.map (·.2)) = true := hw
    clear hw e
    induction r with
    | nil => exact .nil
    | @cons k d q v ds vs hk r t ih =>
      rw [List.map_cons] at hw'
      have z := Bool.and_eq_true_iff.mp (show (below b d && belows b (ds.map (·.2))) = true from hw')
      exact .cons hk (below_at hb r z.1) (ih z.2)
theorem obB_le {a b : Nat} (h : a ≤ b) {o : Ob} (z : obB a o = true) : obB b o = true := by
  cases o with
  | dead => rfl
  | lst l => exact belows_le h (d := l) z
  | dic l => exact (show belows b (l.map (·.2)) = true from belows_le h (show belows a (l.map (·.2)) = true from z))
theorem StoreR.cut (sr : StoreR K H ⟨c, h⟩ S) (hb : b ≤ c.length) : StoreR K H ⟨c.take b, h⟩ (S.take b) := by
  have hl : c.length = S.length := sr.len
  refine ⟨by show (c.take b).length = (S.take b).length; rw [List.length_take, List.length_take, hl], fun n o e => ?_, fun n m a h1 h2 => ?_, fun a ha => sr.dis a (List.mem_of_mem_take ha), sr.ht, fun n o e => ?_⟩
  · have hn : n < b := by have := (List.getElem?_eq_some_iff.mp e).1; rw [List.length_take] at this; omega
    rw [List.getElem?_take_of_lt hn] at e
    obtain ⟨co, e1, e2⟩ := sr.cell n o e
    refine ⟨co, ?_, e2.cut hb (obB_le (Nat.le_of_lt hn) (sr.wf n o e))⟩
    show (c.take b)[n]? = _
    rw [List.getElem?_take_of_lt hn]; exact e1
  · have key : ∀ n, (c.take b)[n]? = some (some a) → c[n]? = some (some a) := fun n e => by
      have hn : n < b := by have := (List.getElem?_eq_some_iff.mp e).1; rw [List.length_take] at this; omega
      rw [List.getElem?_take_of_lt hn] at e; exact e
    exact sr.inj n m a (key n h1) (key m h2)
  · have hn : n < b := by have := (List.getElem?_eq_some_iff.mp e).1; rw [List.length_take] at this; omega
    rw [List.getElem?_take_of_lt hn] at e
    exact sr.wf n o e
theorem Le.cut (le : Le loc H ⟨c, h⟩ H') : Le loc H ⟨c.take loc.c.length, h⟩ H' := by
  refine ⟨fun a o e hn => ⟨(le.keep a o e hn).1, fun m => (le.keep a o e hn).2 (m.imp List.mem_of_mem_take id)⟩, fun n a e hn => ?_, ?_, le.hid, le.hk⟩
  · have e' : (c.take loc.c.length)[n]? = some (some a) := e
    rw [List.getElem?_take_of_lt hn] at e'
    exact le.idx n a e' hn
  · show loc.c.length ≤ (c.take loc.c.length).length
    rw [List.length_take]
    have : loc.c.length ≤ c.length := le.len
    omega
end
/-! ### plain parameters -/
theorem lookup_zip_isSome {ns : List Str} {us : List Value} (hl : us.length = ns.length) : ∀ n ∈ ns, ((ns.zip us).lookup n).isSome = true := by
  induction ns generalizing us with
  | nil => intro n h; cases h
  | cons m ns ih =>
    intro n h
    cases us with
    | nil => simp at hl
    | cons u us =>
      rw [List.zip_cons_cons, List.lookup_cons]
      cases q : n == m with
      | true => rfl
      | false =>
        rcases List.mem_cons.mp h with e | h
        · subst e; simp at q
        · exact ih (by simpa using hl) n h
theorem zip_lookup {ns : List Str} {us : List Value} (nd : ns.Nodup) (hl : us.length = ns.length) : ns.filterMap (fun n => ((ns.zip us).lookup n).map fun v => (n, v)) = ns.zip us := by
  have gen : ∀ (ms : List Str) (ws : List Value), ms.Nodup → ws.length = ms.length → ∀ (pre : List (Str × Value)), (∀ m ∈ ms, pre.lookup m = none) → ms.filterMap (fun n => ((pre ++ ms.zip ws).lookup n).map fun v => (n, v)) = ms.zip ws := by
    intro ms
    induction ms with
    | nil => intro ws _ _ _ _; simp
    | cons m ms ih =>
      intro ws nd hl pre hpre
      cases ws with
      | nil => simp at hl
      | cons w ws =>
        have nd' := List.nodup_cons.mp nd
        have e1 : (pre ++ (m :: ms).zip (w :: ws)).lookup m = some w := by
          rw [List.lookup_append, hpre m List.mem_cons_self]
          simp
        rw [List.filterMap_cons]
        simp only [e1, Option.map_some]
        rw [List.zip_cons_cons]
        congr 1
        have e2 : pre ++ (m, w) :: ms.zip ws = (pre ++ [(m, w)]) ++ ms.zip ws := by simp
        rw [e2]
        refine ih ws nd'.2 (by simpa using hl) _ fun m' hm' => ?_
        rw [List.lookup_append, hpre m' (List.mem_cons_of_mem _ hm')]
        have : (m' == m) = false := beq_eq_false_iff_ne.mpr fun e => nd'.1 (e ▸ hm')
        simp [List.lookup_cons, this]
  simpa using gen ns us nd hl [] (fun _ _ => rfl)
theorem bind_plain {fd : FuncData} {ns : List Str} (h1 : fd.params.posonlyargs = []) (h2 : fd.params.args.map (·.arg) = ns) (h3 : fd.params.kwonlyargs = []) (h4 : fd.params.vararg = none) (h5 : fd.params.kwarg = none) (hd : fd.defaults = .none) (nd : ns.Nodup)
    (us : List Value) (hl : us.length = ns.length) : bindArgs fd ⟨us, []⟩ = pure (ns.zip us) := by
  have hm : (ns.filter fun n => ((ns.zip us).lookup n).isNone) = [] := by
    rw [List.filter_eq_nil_iff]
    intro n hn
    have := lookup_zip_isSome hl n hn
    simp [Option.isSome_iff_ne_none] at this ⊢
    exact this
  have e0 : seqItems? Value.none = (pure none : Sem (Option (Array Value))) := rfl
  unfold bindArgs
  simp only [h1, h2, h3, h4, h5, hd, e0, List.map_nil, List.nil_append, List.append_nil, List.forIn_nil, pure_bind, bind_pure, Option.getD_none, List.toList_toArray, List.length_nil, hl, Nat.lt_irrefl, decide_false, Bool.false_and, gt_iff_lt,
    Bool.false_eq_true, if_false, Nat.zero_sub, List.drop_nil, Nat.sub_zero, List.take_length, hm, List.isEmpty_nil, Bool.not_true, List.drop_length, List.zip_nil_right, List.zip_nil_left, zip_lookup nd hl]
end Pf

set_option linter.all false
set_option Elab.async false
set_option maxRecDepth 100000
set_option autoImplicit false
namespace Pf
open PySem PySem.Spec PyProof.Rows L2
/-- the evaluator's outcome of a call, from the body's -/
theorem call_out {K : PySem.W.Frag} {C : Clss} {E : XW} {loc : Loc} {H : Hp} {F : Nat → Option Fn} {k id : Nat} {fn : Fn} {as : List D} {S : Store} {Q : VK} (hf : F id = some fn) (hl : as.length = fn.ps) (sr : StoreR K H loc S)
    (o : Out K C E (RD K) loc H (callF F (k + 1) id as S) Q) : OutS K C E loc H (exec (callF F k) fn.body (as.map some ++ List.replicate (fn.n - fn.ps) none) S) { nx := fun _ H' => Q .non H', rt := Q } := by
  rw [callF] at o
  simp only [hf, hl, if_true] at o
  have hb : S.length = loc.c.length := sr.len.symm
  have fin : ∀ {d : D} {S' : Store} {loc' : Loc} {H' : Hp} {v : V}, Out K C E (RD K) loc H (finF fn.pure S.length d S') Q → Le loc H loc' H' → StoreR K H' loc' S' → RelD K H' loc' d v → Q v H' := by
    intro d S' loc' H' v o le sr' r
    unfold finF at o
    by_cases hp : fn.pure = true
    · simp only [hp, if_true] at o
      cases q : fz S' S.length d with
      | none => rw [q] at o; exact o.elim
      | some d' =>
        rw [q] at o
        rw [hb] at o q
        obtain ⟨c, h⟩ := loc'
        have hle : loc.c.length ≤ c.length := le.len
        exact o _ H' v (Le.cut le) (StoreR.cut sr' hle) (fz_at hle sr' r q)
    · simp only [hp] at o
      exact o loc' H' v le sr' r
  cases q : exec (callF F k) fn.body (as.map some ++ List.replicate (fn.n - fn.ps) none) S with
  | ok fl S' =>
    rw [q] at o
    cases fl with
    | nx ρ => exact fun loc' H' σ' le sr' er => fin o le sr' .non
    | rt d => exact fun loc' H' v le sr' r => fin o le sr' r
  | exc c fs S' =>
    rw [q] at o
    intro loc' H' cls d le sr' x
    by_cases hp : fn.pure = true
    · simp only [hp, if_true] at o
      cases q2 : fzs S' S.length fs with
      | none => rw [q2] at o; exact o.elim
      | some fs' =>
        rw [q2] at o
        simp only at o
        rw [hb] at o q2
        obtain ⟨cc, h⟩ := loc'
        have hle : loc.c.length ≤ cc.length := le.len
        obtain ⟨a, names, dd, vs, e1, e2, e3, e4, e5, e6, e7⟩ := x
        exact o _ H' cls d (Le.cut le) (StoreR.cut sr' hle) ⟨a, names, dd, vs, e1, e2, e3, e4, e5, fun m => e6 (m.imp List.mem_of_mem_take fun z => z), fzs_at hle sr' e7 q2⟩
    · simp only [hp] at o
      exact o loc' H' cls d le sr' x
  | no => rw [q] at o; exact o
theorem envR_start {K : PySem.W.Frag} {H : Hp} {loc : Loc} {as : List D} {vs : List V} {N : List Str} {n p : Nat} (r : RelDs K H loc as vs) (hn : N.length = n) (hp : as.length = p) : EnvR K H loc (as.map some ++ List.replicate (n - p) none) (L2.start N vs) := by
  have hl : as.length = vs.length := r.length
  unfold L2.start
  refine ⟨by simp [hn, ← hp, hl], fun i d h => ?_⟩
  by_cases hi : i < as.length
  · rw [List.getElem?_append_left (by simpa using hi), List.getElem?_map] at h
    cases q : as[i]? with
    | none => rw [q] at h; cases h
    | some d' =>
      rw [q] at h
      cases h
      obtain ⟨v, h1, h2⟩ := r.get q
      exact ⟨v, by rw [List.getElem?_append_left (by simpa [← hl] using hi), List.getElem?_map, h1]; rfl, h2⟩
  · rw [List.getElem?_append_right (by simpa using hi), List.getElem?_replicate] at h
    split at h <;> cases h
/-- a def of the text -/
structure Df where
  id : Nat
  name : Str
  args : Arguments
  body : List Stmt
  scope : Scope
  ps : List Str
  N : List Str
  fn : Fn
/-- the text's facts for a def -/
def gmOf (F : Nat → Option Fn) (C : Clss) (tb : List (Str × Nat)) (con : List (Str × D)) (bi : List Str) (k : Nat) (d : Df) : Gm := { cl := callF F k, C := C, k := k, N := d.N, sc := d.scope, fn := tb, con := con, bi := bi, fc := fun _ => true }
section
variable {P : Program} {w : World} {K : PySem.W.Frag} {mg : Str → Option Value} {base : Heap} {C : Clss} {F : Nat → Option Fn} {tb : List (Str × Nat)} {con : List (Str × D)} {bi : List Str}
theorem fnG_of {k id : Nat} {d : Df} {f : Addr} {fd : FuncData} (hF : FunD K d.name d.name d.args d.body d.scope [] [] f fd) (sc : FnScope d.N d.ps d.scope) (hf : F id = some d.fn) (hps : d.fn.ps = d.ps.length) (hn : d.N.length = d.fn.n)
    (hfn : ∀ p ∈ tb, FnAt P w K mg base C k p.1 (callF F k p.2)) (hcon : ∀ p ∈ con, ∃ u v, mg p.1 = some u ∧ RelV v u ∧ ∀ H loc, RelD K H loc p.2 v) (hbi : ∀ x ∈ bi, mg x = none)
    (hS : SS (gmOf F C tb con bi k d) d.body d.fn.body) : FnG P w K mg base C (k + 1) f fd d.ps (callF F (k + 1) id) := by
  obtain ⟨oc, od, dV, kV, doc, pm, an, cdv, ct, osl, rfl, lk, hcd, _, _⟩ := hF.ex
  refine ⟨fun A outer s H args us vs loc S as Q E hr hgu e0 hb r sr ra hla o => ?_⟩
  have hl : vs.length = d.ps.length := by rw [← ra.length]; exact hla
  have KX : K.In s.heap := e0.mod.kin.keeps fun b o e => (e0.bs b o e).1
  have lim : s.heap.NoLimit := e0.mod.nolimit.keeps fun b o e => (e0.bs b o e).1
  have hkind : ∀ y ∈ d.ps.zip us, d.scope.names.lookup y.1 = some .local ∨ (d.scope.names.lookup y.1 = some .cell ∧ ((cellsFrom (s.heap.objs.size + 1) d.scope.names []).lookup y.1).isSome = true) := fun ⟨n, v⟩ hy => by
    rcases sc.par n (List.of_mem_zip hy).1 with q | q
    · exact .inl q
    · exact .inr ⟨q, PySem.W.cellsFrom_some _ _ _ (.inl q)⟩
  refine codeAny_call_function hr.depth (KX _ _ lk) rfl sc.co sc.gen rfl (PySem.W.codeRec_of KX hcd) (hb _ _ _ _ ?_)
  refine wpAny_newFunctionEnv_cells sc.kind hkind fun env he s1 x => ?_
  subst he
  refine ⟨lim.keeps x.toInCall.keep, codeAny_func ?_⟩
  have cx : CxOk (gmOf F C tb con bi k d) (wx E) (cxOf (CX P w) P w K mg base d.N d.name d.scope f cdv A outer s H E) :=
    { hN := rfl, nd := sc.nd, hsc := rfl, calm := rfl, room := hr.deeper _, guards := hgu, takes := takes_of rfl rfl rfl rfl, fns := hfn, cons := hcon, bis := hbi, hfc := rfl }
  have ht := hS.h (cxOf (CX P w) P w K mg base d.N d.name d.scope f cdv A outer s H E) E cx (passes_of rfl)
  have hq : rdS (cxOf (CX P w) P w K mg base d.N d.name d.scope f cdv A outer s H E) (gmOf F C tb con bi k d) E d.fn.body { nx := fun _ H' => Q .non H', rt := Q } (L2.start d.N vs) H :=
    ⟨_, S, loc, envR_start ra hn (hla.trans hps.symm), sr, call_out hf (hla.trans hps.symm) sr o⟩
  have I : Inv (cxOf (CX P w) P w K mg base d.N d.name d.scope f cdv A outer s H E) [] (L2.start d.N vs) H s1 := inv_start sc hr.hd e0 hl r x
  refine wpAny_mono (ht.run [] s1 (L2.start d.N vs) H _ I hq) (fun fl s' hs => ?_) fun e s' hs => hs
  have fin : ∀ {σ' : L2.St} {H' : Hp} {v : V} {u : Value}, Inv (cxOf (CX P w) P w K mg base d.N d.name d.scope f cdv A outer s H E) [] σ' H' s' → RelV v u → Q v H' → CE outer P w H s Q u s' :=
    fun {σ' H' v u} J rv q => ⟨v, H', J.os, J.bare, J.base, J.hok, rv, q⟩
  cases fl with
  | ret u =>
    obtain ⟨v, σ', H', J, rv, q⟩ := hs
    exact fin J rv q
  | next =>
    obtain ⟨σ', H', J, q⟩ := hs
    exact fin (v := V.non) (u := Value.none) J rfl q
  | brk =>
    obtain ⟨_, _, _, q⟩ := hs
    exact False.elim q
  | cont =>
    obtain ⟨_, _, _, q⟩ := hs
    exact False.elim q
/-- a def's form, decided -/
structure DfOk (d : Df) : Prop where
  sc : FnScope d.N d.ps d.scope
  hps : d.fn.ps = d.ps.length
  hn : d.N.length = d.fn.n
  p1 : d.args.posonlyargs = []
  p2 : d.args.args.map (·.arg) = d.ps
  p3 : d.args.kwonlyargs = []
  p4 : d.args.vararg = none
  p5 : d.args.kwarg = none
theorem DfOk.binds {d : Df} {f : Addr} {fd : FuncData} (h : DfOk d) (hF : FunD K d.name d.name d.args d.body d.scope [] [] f fd) : Binds K fd d.ps [] := by
  have ndP : d.ps.Nodup := by rw [← h.sc.pre]; exact h.sc.nd.sublist (List.take_sublist _ _)
  exact hF.bindsN fun kV doc pm an cdv ct us hl => bind_plain h.p1 h.p2 h.p3 h.p4 h.p5 rfl ndP us hl
/-- all the defs, at each depth -/
theorem allFn {defs : List Df} (hF : ∀ d ∈ defs, F d.id = some d.fn) (htb : ∀ p ∈ tb, ∃ d ∈ defs, d.id = p.2 ∧ d.name = p.1) (hok : ∀ d ∈ defs, DfOk d) (hS : ∀ d ∈ defs, ∀ k, SS (gmOf F C tb con bi k d) d.body d.fn.body)
    (hm : ∀ d ∈ defs, ∃ f fd, FunD K d.name d.name d.args d.body d.scope [] [] f fd ∧ mg d.name = some (.ref f))
    (hcon : ∀ p ∈ con, ∃ u v, mg p.1 = some u ∧ RelV v u ∧ ∀ H loc, RelD K H loc p.2 v) (hbi : ∀ x ∈ bi, mg x = none) : ∀ k, ∀ d ∈ defs, ∀ f fd, FunD K d.name d.name d.args d.body d.scope [] [] f fd → FnG P w K mg base C k f fd d.ps (callF F k d.id) := by
  intro k
  induction k with
  | zero =>
    intro d hmem f fd h1
    exact ⟨fun A outer s H args us vs loc S as Q E _ _ _ _ _ _ _ _ o => (show False from o).elim⟩
  | succ k ih =>
    intro d hmem f fd h1
    have ok := hok d hmem
    refine fnG_of h1 ok.sc (hF d hmem) ok.hps ok.hn (fun p hp => ?_) hcon hbi (hS d hmem k)
    obtain ⟨d', m', e1, e2⟩ := htb p hp
    obtain ⟨f', fd', g1, g2⟩ := hm d' m'
    rw [← e2, ← e1]
    refine ⟨f', fd', d'.ps, g2, g1.kp, (hok d' m').binds g1, ih d' m' f' fd' g1, fun as S z => ?_⟩
    cases k with
    | zero => exact absurd rfl z
    | succ k =>
      rw [callF] at z
      simp only [hF d' m'] at z
      by_cases hl : as.length = d'.fn.ps
      · exact hl.trans (hok d' m').hps
      · simp only [hl, if_false] at z; exact absurd rfl z
end
end Pf

set_option linter.all false
set_option Elab.async false
set_option maxRecDepth 100000
set_option autoImplicit false
/-! PfEnd: a law from the evaluator's answer -/
namespace Pf
open PySem PySem.Spec PyProof.Rows L2
def scrD (ns : List Int) : D := .scr (ns.map D.int)
theorem relDs_ints {K : PySem.W.Frag} {H : Hp} {loc : Loc} : ∀ ns : List Int, RelDs K H loc (ns.map D.int) (ns.map V.int)
  | [] => .nil
  | n :: ns => .cons (.int n) (relDs_ints ns)
theorem relD_scr {K : PySem.W.Frag} {H : Hp} {a : Addr} {ns : List Int} (h : SqL K H a (ns.map V.int)) : RelD K H ⟨[], []⟩ (scrD ns) (.ref a) := by
  rcases h with h | h
  · exact .scr (.inl ⟨h, by rintro (m | m) <;> cases m⟩) (relDs_ints ns)
  · exact .scr (.inr fun _ => .inr h) (relDs_ints ns)
theorem storeR_nil {K : PySem.W.Frag} {H : Hp} : StoreR K H ⟨[], []⟩ [] :=
  ⟨rfl, (fun n o e => by simp at e), (fun n m a e => by simp at e), (fun a m => nomatch m), (fun a m => nomatch m), (fun n o e => by simp at e)⟩
/-- the law's call, behind the top -/
theorem law_callG {P : Program} {w : World} {K : PySem.W.Frag} {mg mb : Str → Option Value} {C : Clss} {k : Nat} {fa a : Addr} {fd : FuncData} {x : Str} {cf : List D → M D} {s₁ : Shared} {vs : List Value} {ns : List Int}
    (KX : K.In s₁.heap) (hns : s₁.heap.Ns mainGlobals mg) (hb : s₁.heap.Ns builtinsNs mb) (hbb : ∀ x : Str, x ≠ "__name__" → mb x = bootBuiltins x) (hlim : s₁.heap.NoLimit) (hg : s₁.gens = #[])
    (ha : s₁.heap.get? a = some { cls := .type "list", data := .seq vs.toArray }) (hi : IntsAre vs ns) (hl : ns.length ≤ sizeLine) (hr : Room k callerA)
    (F : ∀ base : Heap, K.In base → base.Ns mainGlobals mg → FnG P w K mg base C k fa fd [x] cf) (hbind : ∀ (s : Shared) (u : Value), BindsTo s fd ⟨[u], []⟩ [(x, u)])
    (hsp : ∃ S, cf [scrD ns] [] = .ok (.bl true) S) :
    codeAny (model P w) callerA (.call (.ref fa) ⟨[.ref a], []⟩) (fun r s' => r = .ok (.ret (.bool true)) ∧ OldK s₁.heap s'.heap ∧ s'.os = s₁.os ∧ AllBare s'.gens) s₁ := by
  have rv := vals_ints hi
  have lenV := hi.length
  have core : ∀ H : Hp, Only H → SqL K H a (ns.map V.int) → HOk P w H s₁.heap → (∀ b, H b ≠ none → b = a) → (H a ≠ none → K.lookup a = none) →
      codeAny (model P w) callerA (.call (.ref fa) ⟨[.ref a], []⟩) (fun r s' => r = .ok (.ret (.bool true)) ∧ OldK s₁.heap s'.heap ∧ s'.os = s₁.os ∧ AllBare s'.gens) s₁ := by
    intro H hO hS hok hA hK
    have base_of : ∀ {b : Addr} {o : Obj}, s₁.heap.get? b = some o → H b = none → (hidT s₁.heap H).get? b = some o := fun e n => hidT_get e n
    have noA : ∀ {b : Addr} {o : Obj} {es : Array DictEntry} {ep : Nat}, s₁.heap.get? b = some o → o.data = .dict es ep → H b = none := fun {b o es ep} e d => by
      cases q : H b with
      | none => rfl
      | some u =>
        have e' : b = a := hA b (by rw [q]; simp)
        subst e'
        rw [ha] at e; cases e
        have d' : Data.seq vs.toArray _ = Data.dict es ep := d
        cases d'
    have nsK : ∀ {b : Addr} {m : Str → Option Value}, s₁.heap.Ns b m → (hidT s₁.heap H).Ns b m := fun {b m} ⟨o, es, ep, e, d, r⟩ => ⟨o, es, ep, base_of e (noA e d), d, r⟩
    have hKb : K.In (hidT s₁.heap H) := fun b o e => base_of (KX b o e) (by
      cases q : H b with
      | none => rfl
      | some u =>
        have e' : b = a := hA b (by rw [q]; simp)
        subst e'
        rw [hK (by rw [q]; simp)] at e; cases e)
    have hM : Mod K mg (hidT s₁.heap H) := ⟨hKb, nsK hns, ⟨mb, nsK hb, hbb⟩, let ⟨mc, h1, h2⟩ := hlim; ⟨mc, nsK h1, h2⟩⟩
    have e0 : Env0 P w K mg (hidT s₁.heap H) callerA [] s₁ H := ⟨rfl, hM, fun b o e => of_hidT e, Nat.le_of_eq (hidT_size _ _), trivial, fun b hb => absurd (show b ∈ ([] : List Addr) from hb) (by simp), hok, .of_eq hg⟩
    obtain ⟨S, hcf⟩ := hsp
    have ho : Out K C (fun _ _ _ => False) (RD K) ⟨[], []⟩ H (cf [scrD ns] []) (fun v _ => v = .bl true) := by
      rw [hcf]
      intro loc' H' v _ _ r
      cases r
      rfl
    refine codeAny_mono ((F _ hKb (nsK hns)).run callerA [] s₁ H ⟨[.ref a], []⟩ [.ref a] [.ref a] ⟨[], []⟩ [] [scrD ns] _ _ hr rfl e0 (hbind s₁ (.ref a)) (.cons rfl .nil) storeR_nil (.cons (relD_scr hS) .nil) rfl ho) fun r s' h => ?_
    cases r with
    | error e =>
      obtain ⟨_, _, _, _, _, _, _, _, _, _, _, _, z⟩ := (show CX P w [] H s₁ (fun _ _ _ => False) e s' from h)
      exact z.elim
    | ok fl =>
      cases fl with
      | next => exact False.elim h
      | brk => exact False.elim h
      | cont => exact False.elim h
      | ret u =>
        obtain ⟨v, H', os, bare, un, hok', r', q⟩ := h
        have q' : v = .bl true := q
        subst q'
        obtain rfl : u = Value.bool true := r'
        refine ⟨rfl, OldK.of_keep fun b o e => ?_, os, bare⟩
        cases q : H b with
        | none => exact un.keep b o e q (by intro z; exact absurd (show b ∈ ([] : List Addr) from z) (by simp)) (by simp)
        | some u =>
          rcases hO b with z | ⟨ob, xs, z⟩
          · rw [q] at z; cases z
          · have z2 := un.frzs b ob _ z
            obtain ⟨e1, _⟩ := hok b _ z
            obtain ⟨e2, _⟩ := hok' b _ z2
            rw [e] at e1; cases e1
            exact e2
  cases hk : K.lookup a with
  | some o =>
    have e := KX a o hk
    rw [ha] at e
    cases e
    refine core (fun _ => none) (fun _ => .inl rfl) (.inr ⟨_, vs.toArray, _, hk, rfl, rfl, rfl, by rw [List.size_toArray, lenV]; exact hl, by simpa using rv⟩) (fun b u z => by have z' : (none : Option HO) = some u := z; cases z') (fun b z => absurd rfl z) fun z => absurd rfl z
  | none =>
    refine core (fun b => if b = a then some (.frz { cls := .type "list", data := .seq vs.toArray } (.lst (ns.map V.int))) else none) (fun b => ?_) (.inl (.inr ⟨{ cls := .type "list", data := .seq vs.toArray }, if_pos rfl⟩)) (fun b u z => ?_) (fun b z => ?_) fun _ => hk
    · by_cases hb : b = a
      · exact .inr ⟨_, _, if_pos hb⟩
      · exact .inl (if_neg hb)
    · by_cases hb : b = a
      · have z' := (if_pos hb).symm.trans z
        cases z'
        subst hb
        exact ⟨ha, by rw [List.length_map]; exact hl, vs, _, rv, ha⟩
      · have z' := (if_neg hb).symm.trans z
        cases z'
    · by_cases hb : b = a
      · exact hb
      · exact absurd (if_neg hb) z
/-- a law: F gives the written part, the function object, its form over every base -/
theorem walk_G {l : PySem.W.OpenLaw} {n k : Nat} {q : Program} {loose : List Str} {XP : (Str → Option Value) → Heap → Prop} {YP : World → Heap → Prop} {d : DefRec} {x : Str} {cf : List D → M D}
    (hn : l.most = some n) (hn2 : n ≤ sizeLine) (hdf : d.params.defaults = []) (hr : Room k callerA)
    (F : ∀ (w : World) (mg : Str → Option Value) (fa : Addr) (h : Heap), YP w h → h.Ns mainGlobals mg → mg d.name = some (.ref fa) →
      ∃ (K : PySem.W.Frag) (C : Clss) (fd : FuncData), K.In h ∧ (∀ (s : Shared) (u : Value), BindsTo s fd ⟨[u], []⟩ [(x, u)]) ∧
        ∀ base : Heap, K.In base → base.Ns mainGlobals mg → FnG l.prog w K mg base C k fa fd [x] cf)
    (hsp : ∀ ns : List Int, ns.length ≤ n → ∃ S, cf [scrD ns] [] = .ok (.bl true) S) :
    PySem.W.WalkO q loose XP YP l.row.toRowW d [] (fun f vs => PySem.call f vs) := by
  refine Att.attach_call hn hdf fun w s₀ s₁ mg mb fa o pm cd doc a vs ns G Y ho hd hcd hmg hobj hints hlen hg => ?_
  obtain ⟨K, C, fd, KX, hb, hF⟩ := F w mg fa _ Y G.T.g hmg
  exact law_callG KX G.T.g G.T.b G.T.builtins G.T.nolimit hg hobj hints (Nat.le_trans hlen hn2) hr hF hb (hsp ns hlen)
end Pf

set_option linter.all false
set_option maxRecDepth 100000
/-! the small forms of the defs: printed by gen.py -/
namespace Pf
/-- is_below -/
def f0 : Fn := ⟨2, 2,
    (.seq (.ret (.cmp .lt (.bin .mul (.idx (.var 0) (.con (.int 0))) (.idx (.var 1) (.con (.int 1)))) (.bin .mul (.idx (.var 1) (.con (.int 0))) (.idx (.var 0) (.con (.int 1))))))
    .skip), true⟩
/-- divisor -/
def f1 : Fn := ⟨2, 2,
    (.seq (.asg (.name 0) (.bi .abs (.cons (.var 0) .nil)))
    (.seq (.whl (.cmp .gt (.var 1) (.con (.int 0)))
    (.seq (.asg (.tup [(.name 0), (.name 1)]) (.tup (.cons (.var 1) (.cons (.bin .mod (.bi .int (.cons (.var 0) .nil)) (.var 1)) .nil))))
    .skip))
    (.seq (.ret (.var 0))
    .skip))), true⟩
/-- least_terms -/
def f2 : Fn := ⟨2, 3,
    (.seq (.ifs (.cmp .lt (.var 1) (.con (.int 0)))
    (.seq (.asg (.tup [(.name 0), (.name 1)]) (.tup (.cons (.bin .sub (.con (.int 0)) (.var 0)) (.cons (.bin .sub (.con (.int 0)) (.var 1)) .nil))))
    .skip)
    .skip)
    (.seq (.asg (.name 2) (.call 1 (.cons (.var 0) (.cons (.var 1) .nil))))
    (.seq (.ret (.tup (.cons (.bin .fdiv (.var 0) (.var 2)) (.cons (.bin .fdiv (.var 1) (.var 2)) .nil))))
    .skip))), true⟩
/-- times -/
def f3 : Fn := ⟨2, 2,
    (.seq (.ret (.call 2 (.cons (.bin .mul (.idx (.var 0) (.con (.int 0))) (.var 1)) (.cons (.idx (.var 0) (.con (.int 1))) .nil))))
    .skip), true⟩
/-- is_enough -/
def f4 : Fn := ⟨3, 3,
    (.seq (.ret (.not (.call 0 (.cons (.call 3 (.cons (.var 1) (.cons (.con (.int 100)) .nil))) (.cons (.call 3 (.cons (.var 2) (.cons (.var 0) .nil))) .nil)))))
    .skip), true⟩
/-- numbered_from -/
def f5 : Fn := ⟨2, 5,
    (.seq (.ifs (.cmp .eq (.idx (.var 0) (.con (.int 0))) (.con (.str [114, 97, 119])))
    (.seq (.ret (.lst false (.cons (.tup (.cons (.var 0) (.cons (.tup .nil) .nil))) .nil)))
    .skip)
    .skip)
    (.seq (.asg (.tup [(.name 2), (.name 3)]) (.tup (.cons (.lst true .nil) (.cons (.lst true .nil) .nil))))
    (.seq (.for (.name 4) (.seq (.idx (.var 0) (.con (.int 5))))
    (.seq (.ex (.mth .append (.var 3) (.cons (.bin .add (.bin .add (.var 1) (.con (.int 1))) (.bi .len (.cons (.var 2) .nil))) .nil)))
    (.seq (.ex (.mth .extend (.var 2) (.cons (.call 5 (.cons (.var 4) (.cons (.bin .add (.bin .add (.var 1) (.con (.int 1))) (.bi .len (.cons (.var 2) .nil))) .nil))) .nil)))
    .skip)))
    (.seq (.ret (.lst false (.cons (.tup (.cons (.var 0) (.cons (.bi .tuple (.cons (.var 3) .nil)) .nil))) (.star (.var 2) .nil))))
    .skip)))), true⟩
/-- numbered -/
def f6 : Fn := ⟨1, 1,
    (.seq (.ret (.call 5 (.cons (.var 0) (.cons (.con (.int 0)) .nil))))
    .skip), true⟩
/-- counts_of -/
def f7 : Fn := ⟨3, 6,
    (.seq (.ifs (.cmp .ne (.idx (.var 0) (.con (.int 0))) (.con (.str [109, 97, 100, 101])))
    (.seq (.ret (.var 1))
    .skip)
    .skip)
    (.seq (.asg (.tup [(.name 3), (.name 4), (.name 5)]) (.idx (.var 0) (.con (.int 4))))
    (.seq (.ifs (.call 4 (.cons (.var 3) (.cons (.var 1) (.cons (.var 2) .nil))))
    (.seq (.ret (.ite (.cmp .eq (.var 4) (.con (.str [119, 104, 111, 108, 101]))) (.var 2) (.var 1)))
    .skip)
    .skip)
    (.seq (.ret (.ite (.cmp .eq (.var 5) (.con (.str [110, 111, 110, 101]))) (.tup (.cons (.con (.int 0)) (.cons (.con (.int 1)) .nil))) (.var 1)))
    .skip)))), true⟩
/-- plus -/
def f8 : Fn := ⟨2, 2,
    (.seq (.ret (.call 2 (.cons (.bin .add (.bin .mul (.idx (.var 0) (.con (.int 0))) (.idx (.var 1) (.con (.int 1)))) (.bin .mul (.idx (.var 1) (.con (.int 0))) (.idx (.var 0) (.con (.int 1))))) (.cons (.bin .mul (.idx (.var 0) (.con (.int 1))) (.idx (.var 1) (.con (.int 1)))) .nil))))
    .skip), true⟩
/-- summed -/
def f9 : Fn := ⟨1, 3,
    (.seq (.asg (.name 1) (.tup (.cons (.con (.int 0)) (.cons (.con (.int 1)) .nil))))
    (.seq (.for (.name 2) (.seq (.var 0))
    (.seq (.asg (.name 1) (.call 8 (.cons (.var 1) (.cons (.var 2) .nil))))
    .skip))
    (.seq (.ret (.var 1))
    .skip))), true⟩
/-- reckoned -/
def f10 : Fn := ⟨2, 11,
    (.seq (.asg (.name 2) (.call 6 (.cons (.var 0) .nil)))
    (.seq (.asg (.tup [(.name 3), (.name 4), (.name 5)]) (.tup (.cons (.binL .mul (.lst false (.cons (.tup (.cons (.con (.int 0)) (.cons (.con (.int 1)) .nil))) .nil)) (.bi .len (.cons (.var 2) .nil))) (.cons (.binL .mul (.lst false (.cons (.tup (.cons (.con (.int 0)) (.cons (.con (.int 1)) .nil))) .nil)) (.bi .len (.cons (.var 2) .nil))) (.cons (.binL .mul (.lst false (.cons (.tup (.cons (.con (.int 0)) (.cons (.con (.int 1)) .nil))) .nil)) (.bi .len (.cons (.var 2) .nil))) .nil)))))
    (.seq (.for (.name 6) (.rng3 (.bin .sub (.bi .len (.cons (.var 2) .nil)) (.con (.int 1))) (.neg (.con (.int 1))))
    (.seq (.asg (.tup [(.name 7), (.name 8)]) (.idx (.var 2) (.var 6)))
    (.seq (.asg (.sub (.var 3) (.var 6)) (.call 8 (.cons (.idx (.var 1) (.var 6)) (.cons (.call 9 (.cons (.comp false [10] (.name 10) (.seq (.var 8)) .none (.idx (.var 3) (.var 10))) .nil)) .nil))))
    (.seq (.asg (.name 9) (.ite (.cmp .eq (.idx (.var 7) (.con (.int 1))) (.con (.str [104, 101, 114, 101]))) (.idx (.var 1) (.var 6)) (.tup (.cons (.con (.int 0)) (.cons (.con (.int 1)) .nil)))))
    (.seq (.asg (.sub (.var 4) (.var 6)) (.call 8 (.cons (.var 9) (.cons (.call 9 (.cons (.comp false [10] (.name 10) (.seq (.var 8)) .none (.idx (.var 5) (.var 10))) .nil)) .nil))))
    (.seq (.asg (.sub (.var 5) (.var 6)) (.call 7 (.cons (.var 7) (.cons (.idx (.var 4) (.var 6)) (.cons (.idx (.var 3) (.var 6)) .nil)))))
    .skip))))))
    (.seq (.ret (.tup (.cons (.var 3) (.cons (.var 4) (.cons (.var 5) .nil)))))
    .skip)))), true⟩
/-- words_for -/
def f11 : Fn := ⟨2, 9,
    (.seq (.asg (.tup [(.name 2), (.name 3), (.name 4)]) (.call 10 (.cons (.var 0) (.cons (.var 1) .nil))))
    (.seq (.asg (.name 5) (.comp false [6, 7, 8] (.tup [(.name 6), (.tup [(.name 7), (.name 8)])]) (.enum (.call 6 (.cons (.var 0) .nil))) (.some (.cmp .eq (.idx (.var 7) (.con (.int 0))) (.con (.str [109, 97, 100, 101])))) (.tup (.cons (.var 6) (.cons (.var 7) .nil)))))
    (.seq (.ret (.bi .tuple (.cons (.comp false [6, 7] (.tup [(.name 6), (.name 7)]) (.seq (.var 5)) .none (.bi .int (.cons (.call 4 (.cons (.idx (.idx (.var 7) (.con (.int 4))) (.con (.int 0))) (.cons (.idx (.var 3) (.var 6)) (.cons (.idx (.var 2) (.var 6)) .nil)))) .nil))) .nil)))
    .skip))), true⟩
/-- is_fraction -/
def f12 : Fn := ⟨1, 2,
    (.seq (.ifs (.or (.not (.isi (.var 0) .tuple)) (.cmp .ne (.bi .len (.cons (.var 0) .nil)) (.con (.int 2))))
    (.seq (.ret (.con (.bl false)))
    .skip)
    .skip)
    (.seq (.ifs (.not (.bi .all (.cons (.comp false [1] (.name 1) (.seq (.var 0)) .none (.and (.isi (.var 1) .int) (.not (.isi (.var 1) .bool)))) .nil)))
    (.seq (.ret (.con (.bl false)))
    .skip)
    .skip)
    (.seq (.ret (.and (.cmp .gt (.idx (.var 0) (.con (.int 1))) (.con (.int 0))) (.cmp .eq (.call 1 (.cons (.idx (.var 0) (.con (.int 0))) (.cons (.idx (.var 0) (.con (.int 1))) .nil))) (.con (.int 1)))))
    .skip))), true⟩
/-- is_price -/
def f13 : Fn := ⟨2, 2,
    (.seq (.ifs (.not (.call 12 (.cons (.var 1) .nil)))
    (.seq (.ret (.con (.bl false)))
    .skip)
    .skip)
    (.seq (.ret (.and (.not (.call 0 (.cons (.var 1) (.cons (.tup (.cons (.idx (.var 0) (.con (.int 2))) (.cons (.con (.int 1)) .nil))) .nil)))) (.not (.call 0 (.cons (.tup (.cons (.idx (.var 0) (.con (.int 3))) (.cons (.con (.int 1)) .nil))) (.cons (.var 1) .nil))))))
    .skip)), true⟩
/-- prices_for_good -/
def f14 : Fn := ⟨2, 6,
    (.seq (.asg (.name 2) (.call 6 (.cons (.var 0) .nil)))
    (.seq (.ifs (.or (.not (.isi (.var 1) .tuple)) (.cmp .ne (.bi .len (.cons (.var 1) .nil)) (.bi .len (.cons (.var 2) .nil))))
    (.seq .stop
    .skip)
    .skip)
    (.seq (.for (.tup [(.name 3), (.tup [(.name 4), (.name 5)])]) (.enum (.var 2))
    (.seq (.ifs (.not (.call 13 (.cons (.var 4) (.cons (.idx (.var 1) (.var 3)) .nil))))
    (.seq .stop
    .skip)
    .skip)
    .skip))
    (.seq (.ret (.var 1))
    .skip)))), true⟩
/-- moves_in -/
def f15 : Fn := ⟨1, 4,
    (.seq (.ret (.comp false [1, 2, 3] (.tup [(.name 1), (.tup [(.name 2), (.name 3)])]) (.enum (.call 6 (.cons (.var 0) .nil))) (.some (.cmp .lt (.idx (.var 2) (.con (.int 2))) (.idx (.var 2) (.con (.int 3))))) (.var 1)))
    .skip), true⟩
/-- is_whole -/
def f16 : Fn := ⟨3, 3,
    (.seq (.ret (.and (.isi (.var 0) .int) (.and (.not (.isi (.var 0) .bool)) (.cmp2 .le .le (.var 1) (.var 0) (.var 2)))))
    .skip), true⟩
/-- is_rule -/
def f17 : Fn := ⟨1, 1,
    (.seq (.ifs (.or (.not (.isi (.var 0) .tuple)) (.or (.cmp .ne (.bi .len (.cons (.var 0) .nil)) (.con (.int 3))) (.not (.call 16 (.cons (.idx (.var 0) (.con (.int 0))) (.cons (.con (.int 0)) (.cons (.con (.int 100)) .nil)))))))
    (.seq (.ret (.con (.bl false)))
    .skip)
    .skip)
    (.seq (.ifs (.or (.not (.isi (.idx (.var 0) (.con (.int 1))) .str)) (.not (.isi (.idx (.var 0) (.con (.int 2))) .str)))
    (.seq (.ret (.con (.bl false)))
    .skip)
    .skip)
    (.seq (.ret (.and (.cmp .isin (.idx (.var 0) (.con (.int 1))) (.tup (.cons (.con (.str [119, 104, 111, 108, 101])) (.cons (.con (.str [111, 119, 110])) .nil)))) (.cmp .isin (.idx (.var 0) (.con (.int 2))) (.tup (.cons (.con (.str [111, 119, 110])) (.cons (.con (.str [110, 111, 110, 101])) .nil))))))
    .skip))), true⟩
/-- has_form -/
def f18 : Fn := ⟨1, 1,
    (.seq (.ifs (.or (.not (.isi (.var 0) .tuple)) (.or (.cmp .eq (.var 0) (.tup .nil)) (.not (.isi (.idx (.var 0) (.con (.int 0))) .str))))
    (.seq (.ret (.con (.bl false)))
    .skip)
    .skip)
    (.seq (.ret (.or (.and (.cmp .eq (.idx (.var 0) (.con (.int 0))) (.con (.str [114, 97, 119]))) (.cmp .eq (.bi .len (.cons (.var 0) .nil)) (.con (.int 4)))) (.and (.cmp .eq (.idx (.var 0) (.con (.int 0))) (.con (.str [109, 97, 100, 101]))) (.cmp .eq (.bi .len (.cons (.var 0) .nil)) (.con (.int 6))))))
    .skip)), true⟩
/-- wrong_part -/
def f19 : Fn := ⟨1, 1,
    (.seq (.ifs (.not (.call 18 (.cons (.var 0) .nil)))
    (.seq (.ret (.con (.str [102, 111, 114, 109])))
    .skip)
    .skip)
    (.seq (.ifs (.or (.not (.isi (.idx (.var 0) (.con (.int 1))) .str)) (.cmp .notin (.idx (.var 0) (.con (.int 1))) (.tup (.cons (.con (.str [104, 101, 114, 101])) (.cons (.con (.str [97, 119, 97, 121])) .nil)))))
    (.seq (.ret (.con (.str [108, 97, 110, 100])))
    .skip)
    .skip)
    (.seq (.ifs (.not (.call 16 (.cons (.idx (.var 0) (.con (.int 2))) (.cons (.con (.int 0)) (.cons (.con (.int 1000000)) .nil)))))
    (.seq (.ret (.con (.str [108, 111, 119])))
    .skip)
    .skip)
    (.seq (.ifs (.not (.call 16 (.cons (.idx (.var 0) (.con (.int 3))) (.cons (.idx (.var 0) (.con (.int 2))) (.cons (.con (.int 1000000)) .nil)))))
    (.seq (.ret (.con (.str [104, 105, 103, 104])))
    .skip)
    .skip)
    (.seq (.ifs (.cmp .eq (.idx (.var 0) (.con (.int 0))) (.con (.str [114, 97, 119])))
    (.seq (.ret (.con .non))
    .skip)
    .skip)
    (.seq (.ifs (.not (.call 17 (.cons (.idx (.var 0) (.con (.int 4))) .nil)))
    (.seq (.ret (.con (.str [114, 117, 108, 101])))
    .skip)
    .skip)
    (.seq (.ifs (.or (.not (.isi (.idx (.var 0) (.con (.int 5))) .tuple)) (.not (.cmp2 .le .le (.con (.int 1)) (.bi .len (.cons (.idx (.var 0) (.con (.int 5))) .nil)) (.con (.int 4)))))
    (.seq (.ret (.con (.str [112, 97, 114, 116, 115])))
    .skip)
    .skip)
    (.seq (.ret (.con .non))
    .skip)))))))), true⟩
/-- is_made -/
def f20 : Fn := ⟨1, 1,
    (.seq (.ret (.and (.isi (.var 0) .tuple) (.and (.cmp .ne (.var 0) (.tup .nil)) (.and (.isi (.idx (.var 0) (.con (.int 0))) .str) (.cmp .eq (.idx (.var 0) (.con (.int 0))) (.con (.str [109, 97, 100, 101])))))))
    .skip), true⟩
/-- fault_in -/
def f21 : Fn := ⟨1, 6,
    (.seq (.asg (.tup [(.name 1), (.name 2), (.name 3)]) (.tup (.cons (.lst true (.cons (.var 0) .nil)) (.cons (.neg (.con (.int 1))) (.cons (.con (.int 0)) .nil)))))
    (.seq (.whl (.cmp .ne (.var 1) (.lst false .nil))
    (.seq (.asg (.name 4) (.mth .pop (.var 1) .nil))
    (.seq (.asg (.tup [(.name 2), (.name 3)]) (.tup (.cons (.bin .add (.var 2) (.con (.int 1))) (.cons (.bin .add (.var 3) (.bi .int (.cons (.call 20 (.cons (.var 4) .nil)) .nil))) .nil))))
    (.seq (.ifs (.or (.cmp .eq (.var 2) (.con (.int 10))) (.and (.call 20 (.cons (.var 4) .nil)) (.cmp .gt (.var 3) (.con (.int 4)))))
    (.seq (.ret (.tup (.cons (.var 2) (.cons (.con (.str [109, 97, 110, 121])) .nil))))
    .skip)
    .skip)
    (.seq (.asg (.name 5) (.call 19 (.cons (.var 4) .nil)))
    (.seq (.ifs (.cmp .isnot (.var 5) (.con .non))
    (.seq (.ret (.tup (.cons (.var 2) (.cons (.var 5) .nil))))
    .skip)
    .skip)
    (.seq (.ifs (.cmp .eq (.idx (.var 4) (.con (.int 0))) (.con (.str [109, 97, 100, 101])))
    (.seq (.ex (.mth .extend (.var 1) (.cons (.rev false (.bi (.list false) (.cons (.idx (.var 4) (.con (.int 5))) .nil))) .nil)))
    .skip)
    .skip)
    .skip)))))))
    (.seq (.ret (.tup .nil))
    .skip))), true⟩
/-- need_good -/
def f22 : Fn := ⟨1, 4,
    (.seq (.asg (.name 1) (.call 21 (.cons (.var 0) .nil)))
    (.seq (.ifs (.cmp .ne (.var 1) (.tup .nil))
    (.seq .stop
    .skip)
    .skip)
    (.seq (.ifs (.cmp .eq (.idx (.var 0) (.con (.int 0))) (.con (.str [114, 97, 119])))
    (.seq .stop
    .skip)
    .skip)
    (.seq (.ifs (.cmp .gt (.bi .len (.cons (.call 15 (.cons (.var 0) .nil)) .nil)) (.con (.int 3)))
    (.seq .stop
    .skip)
    .skip)
    (.seq (.ifs (.bi .all (.cons (.comp false [2, 3] (.tup [(.name 2), (.name 3)]) (.seq (.call 6 (.cons (.var 0) .nil))) .none (.cmp .eq (.idx (.var 2) (.con (.int 2))) (.con (.int 0)))) .nil))
    (.seq .stop
    .skip)
    .skip)
    (.seq (.ret (.var 0))
    .skip)))))), true⟩
/-- need_priced -/
def f23 : Fn := ⟨2, 2,
    (.seq (.ex (.call 14 (.cons (.call 22 (.cons (.var 0) .nil)) (.cons (.var 1) .nil))))
    .skip), true⟩
/-- words_at -/
def f24 : Fn := ⟨2, 2,
    (.seq (.ex (.call 23 (.cons (.var 0) (.cons (.var 1) .nil))))
    (.seq (.ret (.call 11 (.cons (.var 0) (.cons (.var 1) .nil))))
    .skip)), true⟩
/-- is_of_here -/
def f25 : Fn := ⟨2, 2,
    (.seq (.ret (.cmp .eq (.idx (.call 24 (.cons (.var 0) (.cons (.var 1) .nil))) (.con (.int 0))) (.con (.int 1))))
    .skip), true⟩
/-- portion_for -/
def f26 : Fn := ⟨2, 5,
    (.seq (.asg (.tup [(.name 2), (.name 3), (.name 4)]) (.call 10 (.cons (.var 0) (.cons (.var 1) .nil))))
    (.seq (.ret (.call 2 (.cons (.bin .mul (.idx (.idx (.var 3) (.con (.int 0))) (.con (.int 0))) (.idx (.idx (.var 2) (.con (.int 0))) (.con (.int 1)))) (.cons (.bin .mul (.idx (.idx (.var 3) (.con (.int 0))) (.con (.int 1))) (.idx (.idx (.var 2) (.con (.int 0))) (.con (.int 0)))) .nil))))
    .skip)), true⟩
/-- portion -/
def f27 : Fn := ⟨2, 2,
    (.seq (.ex (.call 23 (.cons (.var 0) (.cons (.var 1) .nil))))
    (.seq (.ret (.call 26 (.cons (.var 0) (.cons (.var 1) .nil))))
    .skip)), true⟩
/-- counted -/
def f28 : Fn := ⟨2, 2,
    (.seq (.ex (.call 23 (.cons (.var 0) (.cons (.var 1) .nil))))
    (.seq (.ret (.bi .tuple (.cons (.idx (.call 10 (.cons (.var 0) (.cons (.var 1) .nil))) (.con (.int 2))) .nil)))
    .skip)), true⟩
/-- owns -/
def f29 : Fn := ⟨2, 2,
    (.seq (.ex (.call 23 (.cons (.var 0) (.cons (.var 1) .nil))))
    (.seq (.ret (.bi .tuple (.cons (.idx (.call 10 (.cons (.var 0) (.cons (.var 1) .nil))) (.con (.int 1))) .nil)))
    .skip)), true⟩
/-- costs -/
def f30 : Fn := ⟨2, 2,
    (.seq (.ex (.call 23 (.cons (.var 0) (.cons (.var 1) .nil))))
    (.seq (.ret (.bi .tuple (.cons (.idx (.call 10 (.cons (.var 0) (.cons (.var 1) .nil))) (.con (.int 0))) .nil)))
    .skip)), true⟩
/-- _law_least -/
def f31 : Fn := ⟨2, 5,
    (.seq (.asg (.tup [(.name 2), (.name 3)]) (.tup (.cons (.bi .abs (.cons (.var 0) .nil)) (.cons (.bi .abs (.cons (.var 1) .nil)) .nil))))
    (.seq (.whl (.cmp .ne (.var 3) (.con (.int 0)))
    (.seq (.asg (.tup [(.name 2), (.name 3)]) (.tup (.cons (.var 3) (.cons (.bin .mod (.bi .int (.cons (.var 2) .nil)) (.var 3)) .nil))))
    .skip))
    (.seq (.asg (.name 4) (.ite (.cmp .gt (.var 1) (.con (.int 0))) (.con (.int 1)) (.neg (.con (.int 1)))))
    (.seq (.ret (.tup (.cons (.bin .fdiv (.bin .mul (.var 4) (.var 0)) (.var 2)) (.cons (.bin .fdiv (.bin .mul (.var 4) (.var 1)) (.var 2)) .nil))))
    .skip)))), true⟩
/-- _law_counted -/
def f32 : Fn := ⟨3, 6,
    (.seq (.ifs (.cmp .eq (.idx (.var 0) (.con (.int 0))) (.con (.str [114, 97, 119])))
    (.seq (.ret (.var 1))
    .skip)
    .skip)
    (.seq (.asg (.tup [(.name 3), (.name 4), (.name 5)]) (.idx (.var 0) (.con (.int 4))))
    (.seq (.ifs (.cmp .ge (.bin .mul (.bin .mul (.con (.int 100)) (.idx (.var 1) (.con (.int 0)))) (.idx (.var 2) (.con (.int 1)))) (.bin .mul (.bin .mul (.var 3) (.idx (.var 2) (.con (.int 0)))) (.idx (.var 1) (.con (.int 1)))))
    (.seq (.ret (.ite (.cmp .eq (.var 4) (.con (.str [119, 104, 111, 108, 101]))) (.var 2) (.var 1)))
    .skip)
    .skip)
    (.seq (.ret (.ite (.cmp .eq (.var 5) (.con (.str [111, 119, 110]))) (.var 1) (.tup (.cons (.con (.int 0)) (.cons (.con (.int 1)) .nil)))))
    .skip)))), true⟩
/-- _law_sum -/
def f33 : Fn := ⟨1, 4,
    (.seq (.asg (.tup [(.name 1), (.name 2)]) (.tup (.cons (.con (.int 0)) (.cons (.con (.int 1)) .nil))))
    (.seq (.for (.name 3) (.seq (.var 0))
    (.seq (.asg (.tup [(.name 1), (.name 2)]) (.tup (.cons (.bin .add (.bin .mul (.var 1) (.idx (.var 3) (.con (.int 1)))) (.bin .mul (.idx (.var 3) (.con (.int 0))) (.var 2))) (.cons (.bin .mul (.var 2) (.idx (.var 3) (.con (.int 1)))) .nil))))
    .skip))
    (.seq (.ret (.call 31 (.cons (.var 1) (.cons (.var 2) .nil))))
    .skip))), true⟩
/-- _law_rows -/
def f34 : Fn := ⟨2, 5,
    (.seq (.asg (.tup [(.name 2), (.name 3)]) (.tup (.cons (.lst false .nil) (.cons (.lst false .nil) .nil))))
    (.seq (.for (.name 4) (.seq (.ite (.cmp .eq (.idx (.var 0) (.con (.int 0))) (.con (.str [109, 97, 100, 101]))) (.idx (.var 0) (.con (.int 5))) (.tup .nil)))
    (.seq (.asg (.name 3) (.bin .add (.var 3) (.lst false (.cons (.bin .add (.bin .add (.var 1) (.con (.int 1))) (.bi .len (.cons (.var 2) .nil))) .nil))))
    (.seq (.asg (.name 2) (.bin .add (.var 2) (.call 34 (.cons (.var 4) (.cons (.bin .add (.bin .add (.var 1) (.con (.int 1))) (.bi .len (.cons (.var 2) .nil))) .nil)))))
    .skip)))
    (.seq (.ret (.bin .add (.lst false (.cons (.tup (.cons (.var 0) (.cons (.var 3) .nil))) .nil)) (.var 2)))
    .skip))), true⟩
/-- _law_reckoned -/
def f35 : Fn := ⟨2, 12,
    (.seq (.asg (.tup [(.name 2), (.name 3)]) (.tup (.cons (.call 34 (.cons (.var 0) (.cons (.con (.int 0)) .nil))) (.cons (.dic [] .nil) .nil))))
    (.seq (.for (.name 4) (.seq (.rev false (.lrng false (.bi .len (.cons (.var 2) .nil)))))
    (.seq (.asg (.tup [(.name 5), (.name 6)]) (.idx (.var 2) (.var 4)))
    (.seq (.asg (.name 7) (.call 33 (.cons (.bin .add (.lst false (.cons (.idx (.var 1) (.var 4)) .nil)) (.comp false [11] (.name 11) (.seq (.var 6)) .none (.idx (.idx (.var 3) (.var 11)) (.con (.int 0))))) .nil)))
    (.seq (.asg (.name 8) (.ite (.cmp .eq (.idx (.var 5) (.con (.int 1))) (.con (.str [104, 101, 114, 101]))) (.lst false (.cons (.idx (.var 1) (.var 4)) .nil)) (.lst false .nil)))
    (.seq (.asg (.name 9) (.call 33 (.cons (.bin .add (.var 8) (.comp false [11] (.name 11) (.seq (.var 6)) .none (.idx (.idx (.var 3) (.var 11)) (.con (.int 2))))) .nil)))
    (.seq (.asg (.name 10) (.con .non))
    (.seq (.ifs (.cmp .eq (.idx (.var 5) (.con (.int 0))) (.con (.str [109, 97, 100, 101])))
    (.seq (.asg (.name 10) (.bi .int (.cons (.cmp .ge (.bin .mul (.bin .mul (.con (.int 100)) (.idx (.var 9) (.con (.int 0)))) (.idx (.var 7) (.con (.int 1)))) (.bin .mul (.bin .mul (.idx (.idx (.var 5) (.con (.int 4))) (.con (.int 0))) (.idx (.var 7) (.con (.int 0)))) (.idx (.var 9) (.con (.int 1))))) .nil)))
    .skip)
    .skip)
    (.seq (.asg (.sub (.var 3) (.var 4)) (.tup (.cons (.var 7) (.cons (.var 9) (.cons (.call 32 (.cons (.var 5) (.cons (.var 9) (.cons (.var 7) .nil)))) (.cons (.var 10) .nil))))))
    .skip))))))))
    (.seq (.ret (.comp false [4] (.name 4) (.rng1 (.bi .len (.cons (.var 2) .nil))) .none (.idx (.var 3) (.var 4))))
    .skip))), true⟩
/-- _law_portion -/
def f36 : Fn := ⟨2, 4,
    (.seq (.asg (.tup [(.name 2), (.name 3)]) (.sli (.idx (.call 35 (.cons (.var 0) (.cons (.var 1) .nil))) (.con (.int 0))) .none (.some (.con (.int 2)))))
    (.seq (.ret (.call 31 (.cons (.bin .mul (.idx (.var 3) (.con (.int 0))) (.idx (.var 2) (.con (.int 1)))) (.cons (.bin .mul (.idx (.var 3) (.con (.int 1))) (.idx (.var 2) (.con (.int 0)))) .nil))))
    .skip)), true⟩
/-- _law_words -/
def f37 : Fn := ⟨2, 3,
    (.seq (.ret (.bi .tuple (.cons (.comp false [2] (.name 2) (.seq (.call 35 (.cons (.var 0) (.cons (.var 1) .nil)))) (.some (.cmp .isnot (.idx (.var 2) (.con (.int 3))) (.con .non))) (.idx (.var 2) (.con (.int 3)))) .nil)))
    .skip), true⟩
/-- _law_right -/
def f38 : Fn := ⟨2, 9,
    (.seq (.asg (.name 2) (.call 35 (.cons (.var 0) (.cons (.var 1) .nil))))
    (.seq (.asg (.name 3) (.comp false [7] (.name 7) (.rng1 (.con (.int 3))) .none (.bi .tuple (.cons (.comp false [8] (.name 8) (.seq (.var 2)) .none (.idx (.var 8) (.var 7))) .nil))))
    (.seq (.asg (.name 4) (.call 37 (.cons (.var 0) (.cons (.var 1) .nil))))
    (.seq (.for (.name 5) (.rng1 (.con (.int 2)))
    (.seq (.asg (.name 6) (.lst false (.cons (.call 30 (.cons (.var 0) (.cons (.var 1) .nil))) (.cons (.call 29 (.cons (.var 0) (.cons (.var 1) .nil))) (.cons (.call 28 (.cons (.var 0) (.cons (.var 1) .nil))) .nil)))))
    (.seq (.ifs (.or (.cmp .ne (.bi .repr (.cons (.var 6) .nil)) (.bi .repr (.cons (.var 3) .nil))) (.cmp .ne (.bi .repr (.cons (.call 24 (.cons (.var 0) (.cons (.var 1) .nil))) .nil)) (.bi .repr (.cons (.var 4) .nil))))
    (.seq (.ret (.con (.bl false)))
    .skip)
    .skip)
    (.seq (.ifs (.cmp .ne (.bi .repr (.cons (.lst false (.cons (.call 25 (.cons (.var 0) (.cons (.var 1) .nil))) (.cons (.call 27 (.cons (.var 0) (.cons (.var 1) .nil))) .nil))) .nil)) (.bi .repr (.cons (.lst false (.cons (.cmp .eq (.idx (.var 4) (.con (.int 0))) (.con (.int 1))) (.cons (.call 36 (.cons (.var 0) (.cons (.var 1) .nil))) .nil))) .nil)))
    (.seq (.ret (.con (.bl false)))
    .skip)
    .skip)
    .skip))))
    (.seq (.ret (.con (.bl true)))
    .skip))))), true⟩
/-- _law_draw -/
def f39 : Fn := ⟨2, 6,
    (.seq (.ifs (.cmp .gt (.idx (.var 0) (.con (.str [108, 101, 102, 116]))) (.con (.int 0)))
    (.seq (.asg (.name 5) (.bin .mod (.bi .int (.cons (.idx (.var 0) (.con (.str [108, 101, 102, 116]))) .nil)) (.var 1)))
    (.seq (.asg (.sub (.var 0) (.con (.str [108, 101, 102, 116]))) (.bin .fdiv (.idx (.var 0) (.con (.str [108, 101, 102, 116]))) (.var 1)))
    (.seq (.ret (.var 5))
    .skip)))
    .skip)
    (.seq (.asg (.name 2) (.bin .add (.idx (.var 0) (.con (.str [115, 112, 111, 116]))) (.con (.int 1))))
    (.seq (.asg (.sub (.var 0) (.con (.str [115, 112, 111, 116]))) (.var 2))
    (.seq (.asg (.name 3) (.idx (.idx (.var 0) (.con (.str [99, 101, 108, 108, 115]))) (.bin .mod (.bi .int (.cons (.var 2) .nil)) (.bi .len (.cons (.idx (.var 0) (.con (.str [99, 101, 108, 108, 115]))) .nil)))))
    (.seq (.asg (.name 4) (.bin .mul (.bi .int (.cons (.bin .add (.bin .add (.bin .mod (.bi .int (.cons (.var 3) .nil)) (.con (.int 2147483629))) (.bin .mul (.con (.int 6133)) (.var 2))) (.bin .mul (.bin .mul (.con (.int 23)) (.var 2)) (.var 2))) .nil)) (.con (.int 48271))))
    (.seq (.asg (.name 4) (.bin .mul (.bi .int (.cons (.bin .add (.bin .mod (.bi .int (.cons (.var 4) .nil)) (.con (.int 2147483647))) (.bin .mul (.con (.int 93241)) (.var 2))) .nil)) (.con (.int 69621))))
    (.seq (.ret (.bin .mod (.bi .int (.cons (.bin .fdiv (.bin .mod (.bi .int (.cons (.var 4) .nil)) (.con (.int 2147483587))) (.con (.int 13))) .nil)) (.var 1)))
    .skip))))))), true⟩
/-- _law_of -/
def f40 : Fn := ⟨2, 2,
    (.seq (.ret (.idx (.var 1) (.call 39 (.cons (.var 0) (.cons (.bi .len (.cons (.var 1) .nil)) .nil)))))
    .skip), true⟩
/-- _law_prices -/
def f41 : Fn := ⟨2, 9,
    (.seq (.asg (.name 2) (.lst true .nil))
    (.seq (.for (.tup [(.name 3), (.name 4)]) (.seq (.call 34 (.cons (.var 1) (.cons (.con (.int 0)) .nil))))
    (.seq (.asg (.tup [(.name 5), (.name 6)]) (.tup (.cons (.idx (.var 3) (.con (.int 2))) (.cons (.idx (.var 3) (.con (.int 3))) .nil))))
    (.seq (.asg (.name 7) (.call 40 (.cons (.var 0) (.cons (.lst false (.cons (.con (.int 1)) (.cons (.con (.int 1)) (.cons (.con (.int 2)) (.cons (.con (.int 3)) (.cons (.con (.int 7)) (.cons (.con (.int 100)) .nil))))))) .nil))))
    (.seq (.asg (.name 8) (.call 40 (.cons (.var 0) (.cons (.lst false (.cons (.con (.int 0)) (.cons (.bin .mul (.bin .sub (.var 6) (.var 5)) (.var 7)) (.cons (.call 39 (.cons (.var 0) (.cons (.bin .add (.bin .mul (.bin .sub (.var 6) (.var 5)) (.var 7)) (.con (.int 1))) .nil))) .nil)))) .nil))))
    (.seq (.ex (.mth .append (.var 2) (.cons (.call 31 (.cons (.bin .add (.bin .mul (.var 5) (.var 7)) (.var 8)) (.cons (.var 7) .nil))) .nil)))
    .skip)))))
    (.seq (.ret (.bi .tuple (.cons (.var 2) .nil)))
    .skip))), true⟩
/-- _law_term -/
def f42 : Fn := ⟨1, 2,
    (.seq (.asg (.name 1) (.call 40 (.cons (.var 0) (.cons (.lst false (.cons (.con (.int 0)) (.cons (.con (.int 30)) (.cons (.con (.int 50)) (.cons (.con (.int 60)) (.cons (.con (.int 100)) (.cons (.call 39 (.cons (.var 0) (.cons (.con (.int 101)) .nil))) .nil))))))) .nil))))
    (.seq (.ret (.tup (.cons (.var 1) (.cons (.call 40 (.cons (.var 0) (.cons (.lst false (.cons (.con (.str [119, 104, 111, 108, 101])) (.cons (.con (.str [119, 104, 111, 108, 101])) (.cons (.con (.str [111, 119, 110])) .nil)))) .nil))) (.cons (.call 40 (.cons (.var 0) (.cons (.lst false (.cons (.con (.str [111, 119, 110])) (.cons (.con (.str [111, 119, 110])) (.cons (.con (.str [110, 111, 110, 101])) .nil)))) .nil))) .nil)))))
    .skip)), true⟩
/-- _law_span -/
def f43 : Fn := ⟨2, 3,
    (.seq (.asg (.name 2) (.call 40 (.cons (.var 0) (.cons (.lst false (.cons (.con (.int 0)) (.cons (.con (.int 1)) (.cons (.con (.int 2)) (.cons (.con (.int 5)) (.cons (.con (.int 10)) (.cons (.call 39 (.cons (.var 0) (.cons (.con (.int 50)) .nil))) (.cons (.call 39 (.cons (.var 0) (.cons (.bin .sub (.bin .pow (.con (.int 10)) (.con (.int 6))) (.con (.int 40))) .nil))) .nil)))))))) .nil))))
    (.seq (.ifs (.or (.cmp .eq (.idx (.var 1) (.con (.str [109, 111, 118, 101, 115]))) (.con (.int 0))) (.cmp .eq (.call 39 (.cons (.var 0) (.cons (.con (.int 2)) .nil))) (.con (.int 0))))
    (.seq (.ret (.tup (.cons (.var 2) (.cons (.var 2) .nil))))
    .skip)
    .skip)
    (.seq (.asg (.sub (.var 1) (.con (.str [109, 111, 118, 101, 115]))) (.bin .sub (.idx (.var 1) (.con (.str [109, 111, 118, 101, 115]))) (.con (.int 1))))
    (.seq (.ret (.tup (.cons (.var 2) (.cons (.bin .add (.bin .add (.var 2) (.con (.int 1))) (.call 40 (.cons (.var 0) (.cons (.lst false (.cons (.con (.int 0)) (.cons (.con (.int 1)) (.cons (.call 39 (.cons (.var 0) (.cons (.con (.int 30)) .nil))) .nil)))) .nil)))) .nil))))
    .skip)))), true⟩
/-- _law_thing -/
def f44 : Fn := ⟨3, 9,
    (.seq (.asg (.tup [(.name 3), (.name 4)]) (.call 43 (.cons (.var 0) (.cons (.var 1) .nil))))
    (.seq (.asg (.name 5) (.call 40 (.cons (.var 0) (.cons (.lst false (.cons (.con (.str [104, 101, 114, 101])) (.cons (.con (.str [97, 119, 97, 121])) .nil))) .nil))))
    (.seq (.ifs (.and (.not (.var 2)) (.or (.cmp .eq (.idx (.var 1) (.con (.str [115, 116, 101, 112, 115]))) (.con (.int 0))) (.or (.cmp .eq (.idx (.var 1) (.con (.str [116, 104, 105, 110, 103, 115]))) (.con (.int 0))) (.cmp .gt (.call 39 (.cons (.var 0) (.cons (.con (.int 3)) .nil))) (.con (.int 0))))))
    (.seq (.ret (.tup (.cons (.con (.str [114, 97, 119])) (.cons (.var 5) (.cons (.var 3) (.cons (.var 4) .nil))))))
    .skip)
    .skip)
    (.seq (.asg (.sub (.var 1) (.con (.str [115, 116, 101, 112, 115]))) (.bin .sub (.idx (.var 1) (.con (.str [115, 116, 101, 112, 115]))) (.con (.int 1))))
    (.seq (.asg (.name 6) (.bin .add (.con (.int 1)) (.call 39 (.cons (.var 0) (.cons (.bi .min2 (.cons (.con (.int 3)) (.cons (.idx (.var 1) (.con (.str [116, 104, 105, 110, 103, 115]))) .nil))) .nil)))))
    (.seq (.asg (.tup [(.sub (.var 1) (.con (.str [116, 104, 105, 110, 103, 115]))), (.name 7)]) (.tup (.cons (.bin .sub (.idx (.var 1) (.con (.str [116, 104, 105, 110, 103, 115]))) (.var 6)) (.cons (.lst true .nil) .nil))))
    (.seq (.for (.name 8) (.rng1 (.var 6))
    (.seq (.ex (.mth .append (.var 7) (.cons (.call 44 (.cons (.var 0) (.cons (.var 1) (.cons (.con (.bl false)) .nil)))) .nil)))
    .skip))
    (.seq (.ret (.tup (.cons (.con (.str [109, 97, 100, 101])) (.cons (.var 5) (.cons (.var 3) (.cons (.var 4) (.cons (.call 42 (.cons (.var 0) .nil)) (.cons (.bi .tuple (.cons (.var 7) .nil)) .nil))))))))
    .skip)))))))), true⟩
/-- _law_good -/
def f45 : Fn := ⟨3, 5,
    (.seq (.asg (.name 3) (.dic [(.str [109, 111, 118, 101, 115]), (.str [115, 116, 101, 112, 115]), (.str [116, 104, 105, 110, 103, 115])] (.cons (.call 39 (.cons (.var 0) (.cons (.bin .add (.var 1) (.con (.int 1))) .nil))) (.cons (.bin .add (.con (.int 1)) (.call 39 (.cons (.var 0) (.cons (.var 2) .nil)))) (.cons (.con (.int 9)) .nil)))))
    (.seq (.asg (.name 4) (.call 44 (.cons (.var 0) (.cons (.var 3) (.cons (.con (.bl true)) .nil)))))
    (.seq (.ret (.bin .add (.bin .add (.sli (.var 4) .none (.some (.con (.int 2)))) (.tup (.cons (.bi .max2 (.cons (.con (.int 1)) (.cons (.idx (.var 4) (.con (.int 2))) .nil))) (.cons (.bi .max2 (.cons (.con (.int 1)) (.cons (.idx (.var 4) (.con (.int 3))) .nil))) .nil)))) (.sli (.var 4) (.some (.con (.int 4))) .none)))
    .skip))), true⟩
/-- _law_begun -/
def f46 : Fn := ⟨1, 3,
    (.seq (.asg (.name 1) (.comp false [2] (.name 2) (.seq (.var 0)) (.some (.cmp .ge (.var 2) (.bin .pow (.con (.int 10)) (.con (.int 18))))) (.var 2)))
    (.seq (.ret (.dic [(.str [99, 101, 108, 108, 115]), (.str [108, 101, 102, 116]), (.str [115, 112, 111, 116])] (.cons (.bin .add (.bi (.list false) (.cons (.var 0) .nil)) (.lst false (.cons (.bi .len (.cons (.var 0) .nil)) .nil))) (.cons (.ite (.cmp .ne (.var 1) (.lst false .nil)) (.idx (.var 1) (.con (.int 0))) (.con (.int 0))) (.cons (.con (.int 0)) .nil)))))
    .skip)), false⟩
/-- law -/
def f47 : Fn := ⟨1, 11,
    (.seq (.asg (.name 1) (.call 46 (.cons (.var 0) .nil)))
    (.seq (.for (.name 2) (.rng1 (.bin .add (.con (.int 8)) (.bi .min2 (.cons (.bi .len (.cons (.var 0) .nil)) (.cons (.con (.int 16)) .nil)))))
    (.seq (.asg (.name 4) (.call 45 (.cons (.var 1) (.cons (.con (.int 3)) (.cons (.con (.int 4)) .nil)))))
    (.seq (.for (.name 9) (.rng1 (.con (.int 4)))
    (.seq (.asg (.name 5) (.call 41 (.cons (.var 1) (.cons (.var 4) .nil))))
    (.seq (.asg (.name 10) (.bi .repr (.cons (.lst false (.cons (.var 4) (.cons (.var 5) .nil))) .nil)))
    (.seq (.ifs (.or (.not (.call 38 (.cons (.var 4) (.cons (.var 5) .nil)))) (.cmp .ne (.bi .repr (.cons (.lst false (.cons (.var 4) (.cons (.var 5) .nil))) .nil)) (.var 10)))
    (.seq (.ret (.con (.bl false)))
    .skip)
    .skip)
    .skip))))
    .skip)))
    (.seq (.asg (.name 3) (.tup (.cons (.con (.str [109, 97, 100, 101])) (.cons (.con (.str [104, 101, 114, 101])) (.cons (.con (.int 2)) (.cons (.con (.int 2)) (.cons (.tup (.cons (.con (.int 50)) (.cons (.con (.str [119, 104, 111, 108, 101])) (.cons (.con (.str [110, 111, 110, 101])) .nil)))) (.cons (.tup (.cons (.tup (.cons (.con (.str [114, 97, 119])) (.cons (.con (.str [97, 119, 97, 121])) (.cons (.con (.int 1)) (.cons (.con (.int 5)) .nil))))) (.cons (.tup (.cons (.con (.str [114, 97, 119])) (.cons (.con (.str [104, 101, 114, 101])) (.cons (.con (.int 1)) (.cons (.con (.int 1)) .nil))))) .nil))) .nil))))))))
    (.seq (.asg (.name 4) (.tup (.cons (.con (.str [109, 97, 100, 101])) (.cons (.con (.str [97, 119, 97, 121])) (.cons (.con (.int 1)) (.cons (.con (.int 1)) (.cons (.tup (.cons (.con (.int 60)) (.cons (.con (.str [111, 119, 110])) (.cons (.con (.str [111, 119, 110])) .nil)))) (.cons (.tup (.cons (.var 3) (.cons (.tup (.cons (.con (.str [114, 97, 119])) (.cons (.con (.str [104, 101, 114, 101])) (.cons (.con (.int 0)) (.cons (.con (.int 3)) .nil))))) .nil))) .nil))))))))
    (.seq (.asg (.name 5) (.tup (.cons (.tup (.cons (.con (.int 1)) (.cons (.con (.int 1)) .nil))) (.cons (.tup (.cons (.con (.int 2)) (.cons (.con (.int 1)) .nil))) (.cons (.tup (.cons (.con (.int 3)) (.cons (.con (.int 1)) .nil))) (.cons (.tup (.cons (.con (.int 1)) (.cons (.con (.int 1)) .nil))) (.cons (.tup (.cons (.con (.int 0)) (.cons (.con (.int 1)) .nil))) .nil)))))))
    (.seq (.asg (.name 6) (.lst false (.cons (.call 30 (.cons (.var 4) (.cons (.var 5) .nil))) (.cons (.call 29 (.cons (.var 4) (.cons (.var 5) .nil))) (.cons (.call 28 (.cons (.var 4) (.cons (.var 5) .nil))) .nil)))))
    (.seq (.asg (.name 7) (.lst false (.cons (.tup (.cons (.tup (.cons (.con (.int 7)) (.cons (.con (.int 1)) .nil))) (.cons (.tup (.cons (.con (.int 6)) (.cons (.con (.int 1)) .nil))) (.cons (.tup (.cons (.con (.int 3)) (.cons (.con (.int 1)) .nil))) (.cons (.tup (.cons (.con (.int 1)) (.cons (.con (.int 1)) .nil))) (.cons (.tup (.cons (.con (.int 0)) (.cons (.con (.int 1)) .nil))) .nil)))))) (.cons (.tup (.cons (.tup (.cons (.con (.int 6)) (.cons (.con (.int 1)) .nil))) (.cons (.tup (.cons (.con (.int 3)) (.cons (.con (.int 1)) .nil))) (.cons (.tup (.cons (.con (.int 0)) (.cons (.con (.int 1)) .nil))) (.cons (.tup (.cons (.con (.int 1)) (.cons (.con (.int 1)) .nil))) (.cons (.tup (.cons (.con (.int 0)) (.cons (.con (.int 1)) .nil))) .nil)))))) .nil))))
    (.seq (.ifs (.or (.cmp .ne (.var 6) (.bin .add (.var 7) (.lst false (.cons (.tup (.cons (.tup (.cons (.con (.int 6)) (.cons (.con (.int 1)) .nil))) (.cons (.tup (.cons (.con (.int 6)) (.cons (.con (.int 1)) .nil))) (.cons (.tup (.cons (.con (.int 0)) (.cons (.con (.int 1)) .nil))) (.cons (.tup (.cons (.con (.int 1)) (.cons (.con (.int 1)) .nil))) (.cons (.tup (.cons (.con (.int 0)) (.cons (.con (.int 1)) .nil))) .nil)))))) .nil)))) (.cmp .ne (.call 24 (.cons (.var 4) (.cons (.var 5) .nil))) (.tup (.cons (.con (.int 1)) (.cons (.con (.int 1)) .nil)))))
    (.seq (.ret (.con (.bl false)))
    .skip)
    .skip)
    (.seq (.asg (.name 8) (.tup (.cons (.con (.str [109, 97, 100, 101])) (.cons (.con (.str [104, 101, 114, 101])) (.cons (.con (.int 1)) (.cons (.con (.int 1)) (.cons (.tup (.cons (.con (.int 50)) (.cons (.con (.str [119, 104, 111, 108, 101])) (.cons (.con (.str [111, 119, 110])) .nil)))) (.cons (.tup (.cons (.tup (.cons (.con (.str [114, 97, 119])) (.cons (.con (.str [97, 119, 97, 121])) (.cons (.con (.int 0)) (.cons (.con (.int 9)) .nil))))) .nil)) .nil))))))))
    (.seq (.ifs (.or (.cmp .ne (.call 24 (.cons (.var 8) (.cons (.tup (.cons (.tup (.cons (.con (.int 1)) (.cons (.con (.int 1)) .nil))) (.cons (.tup (.cons (.con (.int 1)) (.cons (.con (.int 1)) .nil))) .nil))) .nil))) (.tup (.cons (.con (.int 1)) .nil))) (.cmp .ne (.call 24 (.cons (.var 8) (.cons (.tup (.cons (.tup (.cons (.con (.int 1)) (.cons (.con (.int 1)) .nil))) (.cons (.tup (.cons (.con (.int 101)) (.cons (.con (.int 100)) .nil))) .nil))) .nil))) (.tup (.cons (.con (.int 0)) .nil))))
    (.seq (.ret (.con (.bl false)))
    .skip)
    .skip)
    (.seq (.asg (.name 5) (.tup (.cons (.tup (.cons (.con (.int 1)) (.cons (.con (.int 1)) .nil))) (.cons (.tup (.cons (.con (.int 2)) (.cons (.con (.int 1)) .nil))) (.cons (.tup (.cons (.con (.int 7)) (.cons (.con (.int 2)) .nil))) (.cons (.tup (.cons (.con (.int 1)) (.cons (.con (.int 1)) .nil))) (.cons (.tup (.cons (.con (.int 1)) (.cons (.con (.int 2)) .nil))) .nil)))))))
    (.seq (.ret (.and (.cmp .eq (.call 24 (.cons (.var 4) (.cons (.var 5) .nil))) (.tup (.cons (.con (.int 0)) (.cons (.con (.int 0)) .nil)))) (.and (.cmp .eq (.call 27 (.cons (.var 4) (.cons (.var 5) .nil))) (.tup (.cons (.con (.int 1)) (.cons (.con (.int 16)) .nil)))) (.not (.call 25 (.cons (.var 4) (.cons (.var 5) .nil)))))))
    .skip)))))))))))), true⟩
def c48_0 : E := (.comp false [2] (.name 2) (.sgn (.var 0)) .none (.cmp .inS (.var 2) (.con (.str [48, 49, 50, 51, 52, 53, 54, 55, 56, 57]))))
/-- number_of -/
def f48 : Fn := ⟨2, 3,
    (.seq (.ifs (.or (.not (.cmp2 .le .le (.con (.int 1)) (.bi .len (.cons (.var 0) .nil)) (.var 1))) (.not (.bi .all (.cons c48_0 .nil))))
    (.seq (.ret (.con .non))
    .skip)
    .skip)
    (.seq (.ret (.ite (.or (.cmp .eq (.var 0) (.con (.str [48]))) (.cmp .ne (.idx (.var 0) (.con (.int 0))) (.con (.str [48])))) (.bi .intS (.cons (.var 0) .nil)) (.con .non)))
    .skip)), true⟩
/-- fraction_of -/
def f49 : Fn := ⟨1, 4,
    (.seq (.asg (.name 1) (.mth .split (.var 0) (.cons (.con (.str [47])) .nil)))
    (.seq (.ifs (.cmp .ne (.bi .len (.cons (.var 1) .nil)) (.con (.int 2)))
    (.seq (.ret (.tup .nil))
    .skip)
    .skip)
    (.seq (.asg (.tup [(.name 2), (.name 3)]) (.tup (.cons (.call 48 (.cons (.idx (.var 1) (.con (.int 0))) (.cons (.con (.int 30)) .nil))) (.cons (.call 48 (.cons (.idx (.var 1) (.con (.int 1))) (.cons (.con (.int 30)) .nil))) .nil))))
    (.seq (.ifs (.or (.cmp .is (.var 2) (.con .non)) (.or (.cmp .is (.var 3) (.con .non)) (.or (.cmp .eq (.var 3) (.con (.int 0))) (.cmp .ne (.call 2 (.cons (.var 2) (.cons (.var 3) .nil))) (.tup (.cons (.var 2) (.cons (.var 3) .nil)))))))
    (.seq (.ret (.tup .nil))
    .skip)
    .skip)
    (.seq (.ret (.tup (.cons (.var 2) (.cons (.var 3) .nil))))
    .skip))))), true⟩
def c50_0 : E := (.comp false [3] (.name 3) (.seq (.mth .split (.var 1) (.cons (.con (.str [32])) .nil))) .none (.call 49 (.cons (.var 3) .nil)))
/-- read_prices -/
def f50 : Fn := ⟨2, 4,
    (.seq (.ex (.call 22 (.cons (.var 0) .nil)))
    (.seq (.ifs (.not (.isi (.var 1) .str))
    (.seq .stop
    .skip)
    .skip)
    (.seq (.asg (.name 2) (.bi .tuple (.cons c50_0 .nil)))
    (.seq (.ifs (.or (.cmp .inD (.tup .nil) (.var 2)) (.cmp .ne (.bi .len (.cons (.var 2) .nil)) (.bi .len (.cons (.call 6 (.cons (.var 0) .nil)) .nil))))
    (.seq .stop
    .skip)
    .skip)
    (.seq (.ret (.call 14 (.cons (.var 0) (.cons (.var 2) .nil))))
    .skip))))), true⟩
/-- fraction_text -/
def f51 : Fn := ⟨1, 1,
    (.seq (.ret (.bin .add (.bin .add (.bi .str (.cons (.idx (.var 0) (.con (.int 0))) .nil)) (.con (.str [47]))) (.bi .str (.cons (.idx (.var 0) (.con (.int 1))) .nil))))
    .skip), true⟩
def c52_0 : E := (.comp false [2] (.name 2) (.seq (.var 1)) .none (.call 51 (.cons (.var 2) .nil)))
/-- prices_text -/
def f52 : Fn := ⟨2, 3,
    (.seq (.ex (.call 23 (.cons (.var 0) (.cons (.var 1) .nil))))
    (.seq (.ret (.mth .join (.con (.str [32])) (.cons c52_0 .nil)))
    .skip)), true⟩
def b53_0 : St := (.seq (.asg (.tup [(.name 6), (.name 5)]) (.call 53 (.cons (.var 0) (.cons (.var 5) .nil))))
    (.seq (.ex (.mth .append (.var 4) (.cons (.var 6) .nil)))
    .skip))
/-- thing_from -/
def f53 : Fn := ⟨2, 7,
    (.seq (.asg (.tup [(.name 2), (.name 3)]) (.idx (.var 0) (.var 1)))
    (.seq (.ifs (.cmp .eq (.idx (.var 3) (.con (.int 0))) (.con (.str [114, 97, 119])))
    (.seq (.ret (.tup (.cons (.var 3) (.cons (.bin .add (.var 1) (.con (.int 1))) .nil))))
    .skip)
    .skip)
    (.seq (.asg (.tup [(.name 4), (.name 5)]) (.tup (.cons (.lst true .nil) (.cons (.bin .add (.var 1) (.con (.int 1))) .nil))))
    (.seq (.whl (.and (.cmp .lt (.var 5) (.bi .len (.cons (.var 0) .nil))) (.cmp .gt (.idx (.idx (.var 0) (.var 5)) (.con (.int 0))) (.var 2)))
    b53_0)
    (.seq (.ret (.tup (.cons (.tup (.star (.var 3) (.cons (.bi .tuple (.cons (.var 4) .nil)) .nil))) (.cons (.var 5) .nil))))
    .skip))))), true⟩
def c54_0 : E := (.comp false [2] (.name 2) (.seq (.sli (.var 0) (.some (.con (.int 2))) (.some (.con (.int 5))))) .none (.call 48 (.cons (.var 2) (.cons (.con (.int 7)) .nil))))
/-- thing_in -/
def f54 : Fn := ⟨1, 3,
    (.seq (.ifs (.or (.cmp .notin (.bi .len (.cons (.var 0) .nil)) (.tup (.cons (.con (.int 4)) (.cons (.con (.int 7)) .nil)))) (.or (.cmp .notinD (.tup (.cons (.idx (.var 0) (.con (.int 0))) (.cons (.bi .len (.cons (.var 0) .nil)) .nil))) (.tup (.cons (.tup (.cons (.con (.str [114, 97, 119])) (.cons (.con (.int 4)) .nil))) (.cons (.tup (.cons (.con (.str [109, 97, 100, 101])) (.cons (.con (.int 7)) .nil))) .nil)))) (.cmp .notin (.idx (.var 0) (.con (.int 1))) (.tup (.cons (.con (.str [104, 101, 114, 101])) (.cons (.con (.str [97, 119, 97, 121])) .nil))))))
    (.seq (.ret (.tup .nil))
    .skip)
    .skip)
    (.seq (.asg (.name 1) c54_0)
    (.seq (.ifs (.cmp .isin (.con .non) (.var 1))
    (.seq (.ret (.tup .nil))
    .skip)
    .skip)
    (.seq (.ifs (.cmp .eq (.idx (.var 0) (.con (.int 0))) (.con (.str [114, 97, 119])))
    (.seq (.ret (.tup (.cons (.idx (.var 0) (.con (.int 0))) (.cons (.idx (.var 0) (.con (.int 1))) (.cons (.idx (.var 1) (.con (.int 0))) (.cons (.idx (.var 1) (.con (.int 1))) .nil))))))
    .skip)
    .skip)
    (.seq (.ifs (.or (.cmp .notin (.idx (.var 0) (.con (.int 5))) (.tup (.cons (.con (.str [119, 104, 111, 108, 101])) (.cons (.con (.str [111, 119, 110])) .nil)))) (.cmp .notin (.idx (.var 0) (.con (.int 6))) (.tup (.cons (.con (.str [111, 119, 110])) (.cons (.con (.str [110, 111, 110, 101])) .nil)))))
    (.seq (.ret (.tup .nil))
    .skip)
    .skip)
    (.seq (.ret (.tup (.cons (.idx (.var 0) (.con (.int 0))) (.cons (.idx (.var 0) (.con (.int 1))) (.cons (.idx (.var 1) (.con (.int 0))) (.cons (.idx (.var 1) (.con (.int 1))) (.cons (.tup (.cons (.idx (.var 1) (.con (.int 2))) (.cons (.idx (.var 0) (.con (.int 5))) (.cons (.idx (.var 0) (.con (.int 6))) .nil)))) .nil)))))))
    .skip)))))), true⟩
/-- depth_in -/
def f55 : Fn := ⟨1, 1,
    (.seq (.ifs (.and (.cmp .ne (.idx (.var 0) (.con (.int 0))) (.con (.str []))) (.cmp .eq (.idx (.var 0) (.con (.int 0))) (.bin .mulS (.con (.str [46])) (.bi .len (.cons (.idx (.var 0) (.con (.int 0))) .nil)))))
    (.seq (.ret (.tup (.cons (.bi .len (.cons (.idx (.var 0) (.con (.int 0))) .nil)) (.cons (.sli (.var 0) (.some (.con (.int 1))) .none) .nil))))
    .skip)
    .skip)
    (.seq (.ret (.tup (.cons (.con (.int 0)) (.cons (.var 0) .nil))))
    .skip)), true⟩
def b56_0 : St := (.seq (.asg (.tup [(.name 4), (.name 5)]) (.call 55 (.cons (.mth .split (.var 3) (.cons (.con (.str [32])) .nil)) .nil)))
    (.seq (.asg (.name 6) (.call 54 (.cons (.var 5) .nil)))
    (.seq (.asg (.name 7) (.ite (.cmp .ne (.var 1) (.lst false .nil)) (.bin .add (.idx (.idx (.var 1) (.neg (.con (.int 1)))) (.con (.int 0))) (.bi .int (.cons (.cmp .eq (.idx (.idx (.idx (.var 1) (.neg (.con (.int 1)))) (.con (.int 1))) (.con (.int 0))) (.con (.str [109, 97, 100, 101]))) .nil))) (.con (.int 0))))
    (.seq (.ifs (.or (.cmp .eq (.var 6) (.tup .nil)) (.or (.cmp .gt (.var 4) (.var 7)) (.and (.cmp .eq (.var 4) (.con (.int 0))) (.cmp .ne (.var 1) (.lst false .nil)))))
    (.seq .stop
    .skip)
    .skip)
    (.seq (.ex (.mth .append (.var 1) (.cons (.tup (.cons (.var 4) (.cons (.var 6) .nil))) .nil)))
    .skip)))))
/-- items_in -/
def f56 : Fn := ⟨1, 8,
    (.seq (.asg (.name 1) (.lst true .nil))
    (.seq (.for (.tup [(.name 2), (.name 3)]) (.enum (.mth .split (.var 0) (.cons (.con (.str [10])) .nil)))
    b56_0)
    (.seq (.ret (.var 1))
    .skip))), true⟩
/-- read_good -/
def f57 : Fn := ⟨1, 1,
    (.seq (.ifs (.not (.isi (.var 0) .str))
    (.seq .stop
    .skip)
    .skip)
    (.seq (.ret (.call 22 (.cons (.idx (.call 53 (.cons (.call 56 (.cons (.var 0) .nil)) (.cons (.con (.int 0)) .nil))) (.con (.int 0))) .nil)))
    .skip)), true⟩
/-- thing_words -/
def f58 : Fn := ⟨2, 3,
    (.seq (.asg (.name 2) (.ite (.cmp .gt (.var 1) (.con (.int 0))) (.lst true (.cons (.bin .mulS (.con (.str [46])) (.var 1)) .nil)) (.lst true .nil)))
    (.seq (.ex (.mth .extend (.var 2) (.cons (.lst false (.cons (.idx (.var 0) (.con (.int 0))) (.cons (.idx (.var 0) (.con (.int 1))) (.cons (.bi .str (.cons (.idx (.var 0) (.con (.int 2))) .nil)) (.cons (.bi .str (.cons (.idx (.var 0) (.con (.int 3))) .nil)) .nil))))) .nil)))
    (.seq (.ifs (.cmp .eq (.idx (.var 0) (.con (.int 0))) (.con (.str [109, 97, 100, 101])))
    (.seq (.ex (.mth .extend (.var 2) (.cons (.lst false (.cons (.bi .str (.cons (.idx (.idx (.var 0) (.con (.int 4))) (.con (.int 0))) .nil)) (.cons (.idx (.idx (.var 0) (.con (.int 4))) (.con (.int 1))) (.cons (.idx (.idx (.var 0) (.con (.int 4))) (.con (.int 2))) .nil)))) .nil)))
    .skip)
    .skip)
    (.seq (.ret (.var 2))
    .skip)))), true⟩
def b59_0 : St := (.seq (.ex (.mth .extend (.var 2) (.cons (.call 59 (.cons (.var 3) (.cons (.bin .add (.var 1) (.con (.int 1))) .nil))) .nil)))
    .skip)
/-- rows_of -/
def f59 : Fn := ⟨2, 4,
    (.seq (.asg (.name 2) (.lst true (.cons (.mth .join (.con (.str [32])) (.cons (.call 58 (.cons (.var 0) (.cons (.var 1) .nil))) .nil)) .nil)))
    (.seq (.for (.name 3) (.seq (.ite (.cmp .eq (.idx (.var 0) (.con (.int 0))) (.con (.str [109, 97, 100, 101]))) (.idx (.var 0) (.con (.int 5))) (.tup .nil)))
    b59_0)
    (.seq (.ret (.var 2))
    .skip))), true⟩
/-- good_text -/
def f60 : Fn := ⟨1, 1,
    (.seq (.ret (.mth .join (.con (.str [10])) (.cons (.call 59 (.cons (.call 22 (.cons (.var 0) .nil)) (.cons (.con (.int 0)) .nil))) .nil)))
    .skip), true⟩
def b61_0 : St := (.seq (.asg (.name 2) (.bin .add (.bin .add (.var 2) (.con (.str [10]))) (.call 61 (.cons (.var 3) (.cons (.bin .add (.var 1) (.con (.int 1))) .nil)))))
    .skip)
/-- _law_text -/
def f61 : Fn := ⟨2, 4,
    (.seq (.asg (.name 2) (.ite (.cmp .gt (.var 1) (.con (.int 0))) (.bin .add (.bin .mulS (.con (.str [46])) (.var 1)) (.con (.str [32]))) (.con (.str []))))
    (.seq (.asg (.name 2) (.bin .add (.var 2) (.mth .join (.con (.str [32])) (.cons (.lst false (.cons (.idx (.var 0) (.con (.int 0))) (.cons (.idx (.var 0) (.con (.int 1))) (.cons (.bi .str (.cons (.idx (.var 0) (.con (.int 2))) .nil)) (.cons (.bi .str (.cons (.idx (.var 0) (.con (.int 3))) .nil)) .nil))))) .nil))))
    (.seq (.ifs (.cmp .eq (.idx (.var 0) (.con (.int 0))) (.con (.str [114, 97, 119])))
    (.seq (.ret (.var 2))
    .skip)
    .skip)
    (.seq (.asg (.name 2) (.mth .join (.con (.str [32])) (.cons (.lst false (.cons (.var 2) (.cons (.bi .str (.cons (.idx (.idx (.var 0) (.con (.int 4))) (.con (.int 0))) .nil)) (.cons (.idx (.idx (.var 0) (.con (.int 4))) (.con (.int 1))) (.cons (.idx (.idx (.var 0) (.con (.int 4))) (.con (.int 2))) .nil))))) .nil)))
    (.seq (.for (.name 3) (.seq (.idx (.var 0) (.con (.int 5))))
    b61_0)
    (.seq (.ret (.var 2))
    .skip)))))), true⟩
def c62_0 : E := (.comp false [9, 10] (.tup [(.name 9), (.name 10)]) (.seq (.var 7)) .none (.bin .add (.bin .add (.bi .str (.cons (.var 9) .nil)) (.con (.str [47]))) (.bi .str (.cons (.var 10) .nil))))
def b62_0 : St := (.seq (.asg (.name 4) (.call 45 (.cons (.var 1) (.cons (.con (.int 3)) (.cons (.con (.int 4)) .nil)))))
    (.seq (.asg (.name 6) (.call 61 (.cons (.var 4) (.cons (.con (.int 0)) .nil))))
    (.seq (.ifs (.or (.cmp .ne (.lst false (.cons (.call 60 (.cons (.var 4) .nil)) (.cons (.call 60 (.cons (.var 4) .nil)) .nil))) (.lst false (.cons (.var 6) (.cons (.var 6) .nil)))) (.cmp .ne (.bi .repr (.cons (.call 57 (.cons (.var 6) .nil)) .nil)) (.bi .repr (.cons (.var 4) .nil))))
    (.seq (.ret (.con (.bl false)))
    .skip)
    .skip)
    (.seq (.asg (.name 7) (.call 41 (.cons (.var 1) (.cons (.var 4) .nil))))
    (.seq (.asg (.name 8) (.mth .join (.con (.str [32])) (.cons c62_0 .nil)))
    (.seq (.ifs (.or (.cmp .ne (.call 52 (.cons (.var 4) (.cons (.var 7) .nil))) (.var 8)) (.cmp .ne (.bi .repr (.cons (.call 50 (.cons (.var 4) (.cons (.var 8) .nil))) .nil)) (.bi .repr (.cons (.var 7) .nil))))
    (.seq (.ret (.con (.bl false)))
    .skip)
    .skip)
    .skip))))))
/-- law -/
def f62 : Fn := ⟨1, 11,
    (.seq (.asg (.name 1) (.call 46 (.cons (.var 0) .nil)))
    (.seq (.for (.name 2) (.rng1 (.bin .add (.con (.int 8)) (.bi .min2 (.cons (.bi .len (.cons (.var 0) .nil)) (.cons (.con (.int 16)) .nil)))))
    b62_0)
    (.seq (.asg (.name 3) (.tup (.cons (.con (.str [109, 97, 100, 101])) (.cons (.con (.str [104, 101, 114, 101])) (.cons (.con (.int 2)) (.cons (.con (.int 2)) (.cons (.tup (.cons (.con (.int 50)) (.cons (.con (.str [119, 104, 111, 108, 101])) (.cons (.con (.str [110, 111, 110, 101])) .nil)))) (.cons (.tup (.cons (.tup (.cons (.con (.str [114, 97, 119])) (.cons (.con (.str [97, 119, 97, 121])) (.cons (.con (.int 1)) (.cons (.con (.int 5)) .nil))))) (.cons (.tup (.cons (.con (.str [114, 97, 119])) (.cons (.con (.str [104, 101, 114, 101])) (.cons (.con (.int 1)) (.cons (.con (.int 1)) .nil))))) .nil))) .nil))))))))
    (.seq (.asg (.name 4) (.tup (.cons (.con (.str [109, 97, 100, 101])) (.cons (.con (.str [97, 119, 97, 121])) (.cons (.con (.int 1)) (.cons (.con (.int 1)) (.cons (.tup (.cons (.con (.int 60)) (.cons (.con (.str [111, 119, 110])) (.cons (.con (.str [111, 119, 110])) .nil)))) (.cons (.tup (.cons (.var 3) (.cons (.tup (.cons (.con (.str [114, 97, 119])) (.cons (.con (.str [104, 101, 114, 101])) (.cons (.con (.int 0)) (.cons (.con (.int 3)) .nil))))) .nil))) .nil))))))))
    (.seq (.asg (.name 5) (.lst false (.cons (.con (.str [109, 97, 100, 101, 32, 97, 119, 97, 121, 32, 49, 32, 49, 32, 54, 48, 32, 111, 119, 110, 32, 111, 119, 110])) (.cons (.con (.str [46, 32, 109, 97, 100, 101, 32, 104, 101, 114, 101, 32, 50, 32, 50, 32, 53, 48, 32, 119, 104, 111, 108, 101, 32, 110, 111, 110, 101])) (.cons (.con (.str [46, 46, 32, 114, 97, 119, 32, 97, 119, 97, 121, 32, 49, 32, 53])) .nil)))))
    (.seq (.asg (.name 6) (.mth .join (.con (.str [10])) (.cons (.bin .add (.var 5) (.lst false (.cons (.con (.str [46, 46, 32, 114, 97, 119, 32, 104, 101, 114, 101, 32, 49, 32, 49])) (.cons (.con (.str [46, 32, 114, 97, 119, 32, 104, 101, 114, 101, 32, 48, 32, 51])) .nil)))) .nil)))
    (.seq (.ifs (.or (.cmp .ne (.call 60 (.cons (.var 4) .nil)) (.var 6)) (.cmp .ne (.call 57 (.cons (.var 6) .nil)) (.var 4)))
    (.seq (.ret (.con (.bl false)))
    .skip)
    .skip)
    (.seq (.asg (.name 7) (.tup (.cons (.tup (.cons (.con (.int 1)) (.cons (.con (.int 1)) .nil))) (.cons (.tup (.cons (.con (.int 2)) (.cons (.con (.int 1)) .nil))) (.cons (.tup (.cons (.con (.int 7)) (.cons (.con (.int 2)) .nil))) (.cons (.tup (.cons (.con (.int 1)) (.cons (.con (.int 1)) .nil))) (.cons (.tup (.cons (.con (.int 1)) (.cons (.con (.int 2)) .nil))) .nil)))))))
    (.seq (.ifs (.cmp .ne (.call 52 (.cons (.var 4) (.cons (.var 7) .nil))) (.con (.str [49, 47, 49, 32, 50, 47, 49, 32, 55, 47, 50, 32, 49, 47, 49, 32, 49, 47, 50])))
    (.seq (.ret (.con (.bl false)))
    .skip)
    .skip)
    (.seq (.ret (.cmp .eq (.call 50 (.cons (.var 4) (.cons (.con (.str [49, 47, 49, 32, 50, 47, 49, 32, 55, 47, 50, 32, 49, 47, 49, 32, 49, 47, 50])) .nil))) (.var 7)))
    .skip)))))))))), true⟩
def fnsAll : List (Option Fn) := [some f0, some f1, some f2, some f3, some f4, some f5, some f6, some f7, some f8, some f9, some f10, some f11, some f12, some f13, some f14, some f15, some f16, some f17, some f18, some f19, some f20, some f21, some f22, some f23, some f24, some f25, some f26, some f27, some f28, some f29, some f30, some f31, some f32, some f33, some f34, some f35, some f36, some f37, some f38, some f39, some f40, some f41, some f42, some f43, some f44, some f45, some f46, some f47, some f48, some f49, some f50, some f51, some f52, some f53, some f54, some f55, some f56, some f57, some f58, some f59, some f60, some f61, some f62]
def FF (i : Nat) : Option Fn := (fnsAll[i]?).getD none
theorem F_0 : FF 0 = some f0 := rfl
theorem F_1 : FF 1 = some f1 := rfl
theorem F_2 : FF 2 = some f2 := rfl
theorem F_3 : FF 3 = some f3 := rfl
theorem F_4 : FF 4 = some f4 := rfl
theorem F_5 : FF 5 = some f5 := rfl
theorem F_6 : FF 6 = some f6 := rfl
theorem F_7 : FF 7 = some f7 := rfl
theorem F_8 : FF 8 = some f8 := rfl
theorem F_9 : FF 9 = some f9 := rfl
theorem F_10 : FF 10 = some f10 := rfl
theorem F_11 : FF 11 = some f11 := rfl
theorem F_12 : FF 12 = some f12 := rfl
theorem F_13 : FF 13 = some f13 := rfl
theorem F_14 : FF 14 = some f14 := rfl
theorem F_15 : FF 15 = some f15 := rfl
theorem F_16 : FF 16 = some f16 := rfl
theorem F_17 : FF 17 = some f17 := rfl
theorem F_18 : FF 18 = some f18 := rfl
theorem F_19 : FF 19 = some f19 := rfl
theorem F_20 : FF 20 = some f20 := rfl
theorem F_21 : FF 21 = some f21 := rfl
theorem F_22 : FF 22 = some f22 := rfl
theorem F_23 : FF 23 = some f23 := rfl
theorem F_24 : FF 24 = some f24 := rfl
theorem F_25 : FF 25 = some f25 := rfl
theorem F_26 : FF 26 = some f26 := rfl
theorem F_27 : FF 27 = some f27 := rfl
theorem F_28 : FF 28 = some f28 := rfl
theorem F_29 : FF 29 = some f29 := rfl
theorem F_30 : FF 30 = some f30 := rfl
theorem F_31 : FF 31 = some f31 := rfl
theorem F_32 : FF 32 = some f32 := rfl
theorem F_33 : FF 33 = some f33 := rfl
theorem F_34 : FF 34 = some f34 := rfl
theorem F_35 : FF 35 = some f35 := rfl
theorem F_36 : FF 36 = some f36 := rfl
theorem F_37 : FF 37 = some f37 := rfl
theorem F_38 : FF 38 = some f38 := rfl
theorem F_39 : FF 39 = some f39 := rfl
theorem F_40 : FF 40 = some f40 := rfl
theorem F_41 : FF 41 = some f41 := rfl
theorem F_42 : FF 42 = some f42 := rfl
theorem F_43 : FF 43 = some f43 := rfl
theorem F_44 : FF 44 = some f44 := rfl
theorem F_45 : FF 45 = some f45 := rfl
theorem F_46 : FF 46 = some f46 := rfl
theorem F_47 : FF 47 = some f47 := rfl
theorem F_48 : FF 48 = some f48 := rfl
theorem F_49 : FF 49 = some f49 := rfl
theorem F_50 : FF 50 = some f50 := rfl
theorem F_51 : FF 51 = some f51 := rfl
theorem F_52 : FF 52 = some f52 := rfl
theorem F_53 : FF 53 = some f53 := rfl
theorem F_54 : FF 54 = some f54 := rfl
theorem F_55 : FF 55 = some f55 := rfl
theorem F_56 : FF 56 = some f56 := rfl
theorem F_57 : FF 57 = some f57 := rfl
theorem F_58 : FF 58 = some f58 := rfl
theorem F_59 : FF 59 = some f59 := rfl
theorem F_60 : FF 60 = some f60 := rfl
theorem F_61 : FF 61 = some f61 := rfl
theorem F_62 : FF 62 = some f62 := rfl
end Pf

set_option linter.all false
set_option Elab.async false
set_option maxRecDepth 100000
set_option autoImplicit false
/-! PfSim: the evaluator's steps, for simp -/
namespace Pf
def rb {α β : Type} (r : R α) (f : α → Store → R β) : R β := match r with
  | .ok a S => f a S
  | .exc c fs S => .exc c fs S
  | .no => .no
@[simp] theorem rb_ok {α β : Type} (a : α) (S : Store) (f : α → Store → R β) : rb (.ok a S) f = f a S := rfl
@[simp] theorem rb_no {α β : Type} (f : α → Store → R β) : rb (.no : R α) f = .no := rfl
@[simp] theorem rb_exc {α β : Type} (c : Nat) (fs : List D) (S : Store) (f : α → Store → R β) : rb (.exc c fs S : R α) f = .exc c fs S := rfl
theorem bind_rb {α β : Type} (m : M α) (f : α → M β) (S : Store) : (m >>= f) S = rb (m S) (fun a S => f a S) := by
  show M.bind m f S = _
  unfold M.bind rb
  cases m S <;> rfl
@[simp] theorem rb_ite {α β : Type} (p : Prop) [Decidable p] (a b : R α) (f : α → Store → R β) : rb (if p then a else b) f = if p then rb a f else rb b f := by split <;> rfl
section
variable (cl : Nat → List D → M D) (ρ : Ev) (S : Store)
def varR (o : Option (Option D)) (S : Store) : R D := match o with
  | some (some d) => .ok d S
  | _ => .no
@[simp] theorem varR_some (d : D) : varR (some (some d)) S = .ok d S := rfl
@[simp] theorem ev_var {i : Nat} : ev cl (.var i) ρ S = varR ρ[i]? S := by
  rw [ev]
  cases ρ[i]? with
  | none => rfl
  | some o => cases o <;> rfl
@[simp] theorem ev_con {d : D} : ev cl (.con d) ρ S = .ok d S := rfl
@[simp] theorem ev_bin {op : Op} {a b : E} : ev cl (.bin op a b) ρ S = rb (ev cl a ρ S) fun x S => rb (ev cl b ρ S) fun y S => opF op x y S := by
  rw [ev]; simp only [bind_rb]
@[simp] theorem ev_binL {op : Op} {a b : E} : ev cl (.binL op a b) ρ S = rb (ev cl a ρ S) fun x S => rb (ev cl b ρ S) fun y S => opL op x y S := by
  rw [ev]; simp only [bind_rb]
def negR (x : D) (S : Store) : R D := match x with
  | .int i => .ok (.int (-i)) S
  | _ => .no
@[simp] theorem negR_int (i : Int) : negR (.int i) S = .ok (.int (-i)) S := rfl
@[simp] theorem ev_neg {a : E} : ev cl (.neg a) ρ S = rb (ev cl a ρ S) negR := by
  rw [ev]; simp only [bind_rb]; congr 1; funext x S; cases x <;> rfl
def truR (x : D) (S : Store) : R Bool := match x with
  | .bl b => .ok b S
  | _ => .no
@[simp] theorem truR_bl (b : Bool) : truR (.bl b) S = .ok b S := rfl
theorem test_rb (m : M D) : test m S = rb (m S) truR := by
  unfold test; simp only [bind_rb]; congr 1; funext x S; cases x <;> rfl
@[simp] theorem ev_not {a : E} : ev cl (.not a) ρ S = rb (ev cl a ρ S) fun x S => rb (truR x S) fun b S => .ok (.bl (!b)) S := by
  rw [ev]; simp only [bind_rb, test_rb]
  cases ev cl a ρ S <;> rfl
@[simp] theorem ev_cmp {op : Cop} {a b : E} : ev cl (.cmp op a b) ρ S = rb (ev cl a ρ S) fun x S => rb (ev cl b ρ S) fun y S => cmpF op x y S := by
  rw [ev]; simp only [bind_rb]
def andR (x : D) (S : Store) (k : Store → R D) : R D := match x with
  | .bl true => k S
  | .bl false => .ok (.bl false) S
  | _ => .no
@[simp] theorem andR_bl (b : Bool) (k : Store → R D) : andR (.bl b) S k = if b then k S else .ok (.bl false) S := by cases b <;> rfl
def orR (x : D) (S : Store) (k : Store → R D) : R D := match x with
  | .bl true => .ok (.bl true) S
  | .bl false => k S
  | _ => .no
@[simp] theorem orR_bl (b : Bool) (k : Store → R D) : orR (.bl b) S k = if b then .ok (.bl true) S else k S := by cases b <;> rfl
@[simp] theorem ev_cmp2 {o1 o2 : Cop} {a b c : E} : ev cl (.cmp2 o1 o2 a b c) ρ S = rb (ev cl a ρ S) fun x S => rb (ev cl b ρ S) fun y S => rb (cmpF o1 x y S) fun r S => andR r S fun S => rb (ev cl c ρ S) fun z S => cmpF o2 y z S := by
  rw [ev]; simp only [bind_rb]
  congr 1; funext x S; congr 1; funext y S; congr 1; funext r S
  cases r with
  | bl b => cases b <;> first | rfl | (show (_ >>= _) S = _; simp only [bind_rb]; rfl)
  | _ => rfl
@[simp] theorem ev_and {a b : E} : ev cl (.and a b) ρ S = rb (ev cl a ρ S) fun x S => andR x S fun S => ev cl b ρ S := by
  rw [ev]; simp only [bind_rb]
  congr 1; funext x S
  cases x with
  | bl b => cases b <;> rfl
  | _ => rfl
@[simp] theorem ev_or {a b : E} : ev cl (.or a b) ρ S = rb (ev cl a ρ S) fun x S => orR x S fun S => ev cl b ρ S := by
  rw [ev]; simp only [bind_rb]
  congr 1; funext x S
  cases x with
  | bl b => cases b <;> rfl
  | _ => rfl
@[simp] theorem ev_ite {c a b : E} : ev cl (.ite c a b) ρ S = rb (ev cl c ρ S) fun x S => rb (truR x S) fun t S => if t then ev cl a ρ S else ev cl b ρ S := by
  rw [ev]; simp only [bind_rb, test_rb]
  cases ev cl c ρ S with
  | ok x S1 => cases x with
    | bl b => cases b <;> rfl
    | _ => rfl
  | _ => rfl
def szR (xs : List D) (S : Store) (k : Store → R D) : R D := if xs.length ≤ LINE then k S else .no
theorem need_rb {α : Type} (c : Bool) (f : Unit → M α) : (need c >>= f) S = if c = true then f () S else .no := by
  cases c <;> rfl
@[simp] theorem ev_tup {es : Es} : ev cl (.tup es) ρ S = rb (evs cl es ρ S) fun xs S => szR xs S fun S => .ok (.tup xs) S := by
  rw [ev]; simp only [bind_rb]; congr 1; funext xs S
  rw [← bind_rb, need_rb]
  simp only [decide_eq_true_eq]
  rfl
@[simp] theorem ev_lst {m : Bool} {es : Es} : ev cl (.lst m es) ρ S = rb (evs cl es ρ S) fun xs S => szR xs S fun S => mkL m xs S := by
  rw [ev]; simp only [bind_rb]; congr 1; funext xs S
  rw [← bind_rb, need_rb]
  simp only [decide_eq_true_eq]
  rfl
@[simp] theorem mkL_t (l : List D) : mkL true l S = .ok (.ref S.length) (S ++ [.lst l]) := rfl
@[simp] theorem mkL_f (l : List D) : mkL false l S = .ok (.lst l) S := rfl
@[simp] theorem ev_call {f : Nat} {es : Es} : ev cl (.call f es) ρ S = rb (evs cl es ρ S) fun xs S => cl f xs S := by
  rw [ev]; simp only [bind_rb]
@[simp] theorem ev_bi {b : Bi} {es : Es} : ev cl (.bi b es) ρ S = rb (evs cl es ρ S) fun xs S => biF b xs S := by
  rw [ev]; simp only [bind_rb]
@[simp] theorem ev_mth {m : Mt} {o : E} {es : Es} : ev cl (.mth m o es) ρ S = rb (ev cl o ρ S) fun x S => if recvOk m x S = true then rb (evs cl es ρ S) fun xs S => mthF m x xs S else .no := by
  rw [ev]; simp only [bind_rb]; congr 1; funext x S
  rw [← bind_rb]
  show (get >>= fun S' => need (recvOk m x S') >>= fun _ => evs cl es ρ >>= fun xs => mthF m x xs) S = _
  rw [bind_rb]
  show (need (recvOk m x S) >>= fun _ => evs cl es ρ >>= fun xs => mthF m x xs) S = _
  rw [need_rb]
  simp only [bind_rb]
@[simp] theorem ev_idx {a i : E} : ev cl (.idx a i) ρ S = rb (ev cl a ρ S) fun x S => rb (ev cl i ρ S) fun y S => idxF x y S := by
  rw [ev]; simp only [bind_rb]
@[simp] theorem ev_sli {a : E} {lo hi : Oe} : ev cl (.sli a lo hi) ρ S = rb (ev cl a ρ S) fun x S => rb (evO cl lo ρ S) fun l S => rb (evO cl hi ρ S) fun h S => sliF x l h S := by
  rw [ev]; simp only [bind_rb]
def revR (m : Bool) (x : D) (S : Store) : R D := match getL S x with
  | some l => mkL m l.reverse S
  | none => .no
@[simp] theorem revR_lst (m : Bool) (l : List D) : revR m (.lst l) S = mkL m l.reverse S := rfl
@[simp] theorem ev_rev {m : Bool} {a : E} : ev cl (.rev m a) ρ S = rb (ev cl a ρ S) fun x S => revR m x S := by
  rw [ev]; simp only [bind_rb]; congr 1; funext x S
  show (match getL S x with | some l => mkL m l.reverse | none => no) S = _
  unfold revR
  cases getL S x <;> rfl
@[simp] theorem ev_isi {a : E} {t : Ty} : ev cl (.isi a t) ρ S = rb (ev cl a ρ S) fun x S => isiF t x S := by
  rw [ev]; simp only [bind_rb]
@[simp] theorem ev_dic {ks : List D} {vs : Es} : ev cl (.dic ks vs) ρ S = rb (evs cl vs ρ S) fun xs S => dicF ks xs S := by
  rw [ev]; simp only [bind_rb]
@[simp] theorem ev_frz {a : E} : ev cl (.frz a) ρ S = rb (ev cl a ρ S) fun x S => frzF x S := by
  rw [ev]; simp only [bind_rb]
def rngR (m : Bool) (x : D) (S : Store) : R D := match x with
  | .int i => if small i then mkL m (ascend 0 i.toNat) S else .no
  | _ => .no
@[simp] theorem rngR_int (m : Bool) (i : Int) : rngR m (.int i) S = if small i then mkL m (ascend 0 i.toNat) S else .no := rfl
@[simp] theorem ev_lrng {m : Bool} {a : E} : ev cl (.lrng m a) ρ S = rb (ev cl a ρ S) fun x S => rngR m x S := by
  rw [ev]; simp only [bind_rb]; congr 1; funext x S
  cases x with
  | int i => show (if small i = true then mkL m (ascend 0 i.toNat) else no) S = _; unfold rngR; simp only; split <;> rfl
  | _ => rfl
def noexcR {α : Type} (r : R α) : R α := match r with
  | .exc _ _ _ => .no
  | r => r
@[simp] theorem noexcR_ok {α : Type} (a : α) : noexcR (.ok a S) = .ok a S := rfl
/-- the items that a comprehension gives, if its turns are quiet -/
@[simp] theorem ev_compS {m : Bool} {own : List Nat} {p : Pt} {src : Sc} {c : Oe} {elt : E} : ev cl (.comp m own p src c elt) ρ S = rb (evI cl src ρ S) fun items S => rb (noexcR (collect (turnF cl p own c elt ρ) items S)) fun ys S => szR ys S fun S => mkL m ys S := by
  rw [ev_comp]; simp only [bind_rb]; congr 1; funext items S
  rw [← bind_rb, bind_rb]
  have e : noexc (collect (turnF cl p own c elt ρ) items) S = noexcR (collect (turnF cl p own c elt ρ) items S) := by
    unfold noexc noexcR; cases collect (turnF cl p own c elt ρ) items S <;> rfl
  rw [e]; congr 1; funext ys S
  show (need (decide (ys.length ≤ LINE)) >>= fun _ => mkL m ys) S = _
  rw [need_rb]
  simp only [decide_eq_true_eq]
  rfl
@[simp] theorem evs_nil : evs cl .nil ρ S = .ok [] S := rfl
@[simp] theorem evs_cons {e : E} {es : Es} : evs cl (.cons e es) ρ S = rb (ev cl e ρ S) fun x S => rb (evs cl es ρ S) fun xs S => .ok (x :: xs) S := by
  rw [evs]; simp only [bind_rb]; rfl
def starR (x : D) (S : Store) (k : List D → Store → R (List D)) : R (List D) := match getS S x with
  | some l => k l S
  | none => .no
@[simp] theorem starR_lst (l : List D) (k : List D → Store → R (List D)) : starR (.lst l) S k = k l S := rfl
@[simp] theorem starR_tup (l : List D) (k : List D → Store → R (List D)) : starR (.tup l) S k = k l S := rfl
@[simp] theorem evs_star {e : E} {es : Es} : evs cl (.star e es) ρ S = rb (ev cl e ρ S) fun x S => starR x S fun l S => rb (evs cl es ρ S) fun xs S => .ok (l ++ xs) S := by
  rw [evs]; simp only [bind_rb]; congr 1; funext x S
  show (match getS S x with | none => no | some l => evs cl es ρ >>= fun xs => pure (l ++ xs)) S = _
  unfold starR
  cases getS S x with
  | none => rfl
  | some l => simp only [bind_rb]; rfl
@[simp] theorem evO_none : evO cl .none ρ S = .ok none S := rfl
def intR (x : D) (S : Store) : R (Option Int) := match x with
  | .int i => .ok (some i) S
  | _ => .no
@[simp] theorem intR_int (i : Int) : intR (.int i) S = .ok (some i) S := rfl
@[simp] theorem evO_some {e : E} : evO cl (.some e) ρ S = rb (ev cl e ρ S) intR := by
  rw [evO]; simp only [bind_rb]; congr 1; funext x S; cases x <;> rfl
@[simp] theorem evC_none : evC cl .none ρ S = .ok true S := rfl
@[simp] theorem evC_some {e : E} : evC cl (.some e) ρ S = rb (ev cl e ρ S) truR := by
  rw [evC, test_rb]
def getFR (x : D) (S : Store) : R (List D) := match getF x with
  | some l => .ok l S
  | none => .no
@[simp] theorem getFR_tup (l : List D) : getFR (.tup l) S = .ok l S := rfl
@[simp] theorem getFR_lst (l : List D) : getFR (.lst l) S = .ok l S := rfl
@[simp] theorem getFR_scr (l : List D) : getFR (.scr l) S = .ok l S := rfl
@[simp] theorem evI_seq {e : E} : evI cl (.seq e) ρ S = rb (ev cl e ρ S) getFR := by
  rw [evI]; simp only [bind_rb]; congr 1; funext x S; unfold getFR; cases getF x <;> rfl
def enumR (x : D) (S : Store) : R (List D) := match x with
  | .lst l => .ok (enumFrom 0 l) S
  | .scr l => .ok (enumFrom 0 l) S
  | _ => .no
@[simp] theorem enumR_lst (l : List D) : enumR (.lst l) S = .ok (enumFrom 0 l) S := rfl
@[simp] theorem evI_enum {e : E} : evI cl (.enum e) ρ S = rb (ev cl e ρ S) enumR := by
  rw [evI]; simp only [bind_rb]; congr 1; funext x S; cases x <;> rfl
def rg1R (x : D) (S : Store) : R (List D) := match x with
  | .int i => if small i then .ok (ascend 0 i.toNat) S else .no
  | _ => .no
@[simp] theorem rg1R_int (i : Int) : rg1R (.int i) S = if small i then .ok (ascend 0 i.toNat) S else .no := rfl
@[simp] theorem evI_rng1 {e : E} : evI cl (.rng1 e) ρ S = rb (ev cl e ρ S) rg1R := by
  rw [evI]; simp only [bind_rb]; congr 1; funext x S
  cases x with
  | int i => show (if small i = true then pure _ else no : M (List D)) S = _; unfold rg1R; simp only; split <;> rfl
  | _ => rfl
def rg2R (x y : D) (S : Store) : R (List D) := match x, y with
  | .int i, .int j => if small i && small j then .ok (ascend i (j - i).toNat) S else .no
  | _, _ => .no
@[simp] theorem rg2R_int (i j : Int) : rg2R (.int i) (.int j) S = if small i && small j then .ok (ascend i (j - i).toNat) S else .no := rfl
@[simp] theorem evI_rng2 {a b : E} : evI cl (.rng2 a b) ρ S = rb (ev cl a ρ S) fun x S => rb (ev cl b ρ S) fun y S => rg2R x y S := by
  rw [evI]; simp only [bind_rb]; congr 1; funext x S; congr 1; funext y S
  cases x with
  | int i => cases y with
    | int j => show (if (small i && small j) = true then pure _ else no : M (List D)) S = _; unfold rg2R; simp only; split <;> rfl
    | _ => rfl
  | _ => rfl
def rg3R (x y : D) (S : Store) : R (List D) := match x, y with
  | .int i, .int j => if small i && small j then .ok (stepped i (-1) (i - j).toNat) S else .no
  | _, _ => .no
@[simp] theorem rg3R_int (i j : Int) : rg3R (.int i) (.int j) S = if small i && small j then .ok (stepped i (-1) (i - j).toNat) S else .no := rfl
@[simp] theorem evI_rng3 {a b : E} : evI cl (.rng3 a b) ρ S = rb (ev cl a ρ S) fun x S => rb (ev cl b ρ S) fun y S => rg3R x y S := by
  rw [evI]; simp only [bind_rb]; congr 1; funext x S; congr 1; funext y S
  cases x with
  | int i => cases y with
    | int j => show (if (small i && small j) = true then pure _ else no : M (List D)) S = _; unfold rg3R; simp only; split <;> rfl
    | _ => rfl
  | _ => rfl
/-! statements -/
def flR (r : Fl) (S : Store) (k : Ev → Store → R Fl) : R Fl := match r with
  | .nx ρ => k ρ S
  | .rt d => .ok (.rt d) S
@[simp] theorem flR_nx (k : Ev → Store → R Fl) : flR (.nx ρ) S k = k ρ S := rfl
@[simp] theorem flR_rt (d : D) (k : Ev → Store → R Fl) : flR (.rt d) S k = .ok (.rt d) S := rfl
@[simp] theorem ex_skip : exec cl .skip ρ S = .ok (.nx ρ) S := rfl
@[simp] theorem ex_seq {a b : St} : exec cl (.seq a b) ρ S = rb (exec cl a ρ S) fun r S => flR r S fun ρ S => exec cl b ρ S := by
  rw [exec]; simp only [bind_rb]; congr 1; funext r S; cases r <;> rfl
@[simp] theorem ex_asg {t : Tg} {e : E} : exec cl (.asg t e) ρ S = rb (ev cl e ρ S) fun x S => rb (bindT cl t x ρ S) fun ρ S => .ok (.nx ρ) S := by
  rw [exec]; simp only [bind_rb]; rfl
@[simp] theorem ex_ifs {c : E} {a b : St} : exec cl (.ifs c a b) ρ S = rb (ev cl c ρ S) fun x S => rb (truR x S) fun t S => if t then exec cl a ρ S else exec cl b ρ S := by
  rw [exec]; simp only [bind_rb, test_rb]
  cases ev cl c ρ S with
  | ok x S1 => cases x with
    | bl b => cases b <;> rfl
    | _ => rfl
  | _ => rfl
@[simp] theorem ex_ret {e : E} : exec cl (.ret e) ρ S = rb (ev cl e ρ S) fun x S => .ok (.rt x) S := by
  rw [exec]; simp only [bind_rb]; rfl
@[simp] theorem ex_ex {e : E} : exec cl (.ex e) ρ S = rb (ev cl e ρ S) fun _ S => .ok (.nx ρ) S := by
  rw [exec]; simp only [bind_rb]; rfl
@[simp] theorem ex_for {p : Pt} {src : Sc} {b : St} : exec cl (.for p src b) ρ S = rb (evI cl src ρ S) fun items S => forF (bodyF cl p b) items ρ S := by
  rw [exec_for]; simp only [bind_rb]
@[simp] theorem forF_nil (f : D → Ev → M Fl) : forF f [] ρ S = .ok (.nx ρ) S := rfl
theorem forF_cons (f : D → Ev → M Fl) (x : D) (xs : List D) : forF f (x :: xs) ρ S = rb (f x ρ S) fun r S => flR r S fun ρ S => forF f xs ρ S := by
  rw [forF]; simp only [bind_rb]; congr 1; funext r S; cases r <;> rfl
theorem forF_append (f : D → Ev → M Fl) (ys : List D) : ∀ (xs : List D) (ρ : Ev) (S : Store), forF f (xs ++ ys) ρ S = rb (forF f xs ρ S) fun r S => flR r S fun ρ S => forF f ys ρ S
  | [], ρ, S => rfl
  | x :: xs, ρ, S => by
    rw [List.cons_append, forF_cons, forF_cons]
    cases f x ρ S with
    | ok r S1 => cases r with
      | nx ρ1 => simp only [rb_ok, flR_nx]; exact forF_append f ys xs ρ1 S1
      | rt d => rfl
    | _ => rfl
@[simp] theorem bindT_name {i : Nat} {d : D} : bindT cl (.name i) d ρ S = if i < ρ.length then .ok (ρ.set i (some d)) S else .no := by
  rw [bindT]; split <;> rfl
def tupR (d : D) (S : Store) (k : List D → Store → R Ev) : R Ev := match d with
  | .tup ds => k ds S
  | _ => .no
@[simp] theorem tupR_tup (ds : List D) (k : List D → Store → R Ev) : tupR (.tup ds) S k = k ds S := rfl
@[simp] theorem bindT_tup {ts : List Tg} {d : D} : bindT cl (.tup ts) d ρ S = tupR d S fun ds S => bindTs cl ts ds ρ S := by
  cases d with
  | tup ds => rw [bindT]; rfl
  | _ => rfl
@[simp] theorem bindT_sub {o i : E} {d : D} : bindT cl (.sub o i) d ρ S = rb (ev cl o ρ S) fun x S => rb (ev cl i ρ S) fun y S => rb (setF x y d S) fun _ S => .ok ρ S := by
  rw [bindT]; simp only [bind_rb]; rfl
@[simp] theorem bindTs_nil : bindTs cl [] [] ρ S = .ok ρ S := rfl
@[simp] theorem bindTs_cons {t : Tg} {ts : List Tg} {d : D} {ds : List D} : bindTs cl (t :: ts) (d :: ds) ρ S = rb (bindT cl t d ρ S) fun ρ S => bindTs cl ts ds ρ S := by
  rw [bindTs]; simp only [bind_rb]
end
/-! calls -/
def finR (p : Bool) (b : Nat) (r : R Fl) : R D := match r with
  | .ok (.rt d) S' => finF p b d S'
  | .ok (.nx _) S' => finF p b .non S'
  | .exc c fs S' => if p then (match fzs S' b fs with
      | some fs' => .exc c fs' (S'.take b)
      | none => .no) else .exc c fs S'
  | .no => .no
theorem call_eq {F : Nat → Option Fn} {k i : Nat} {fn : Fn} {as : List D} {S : Store} (hf : F i = some fn) (hl : as.length = fn.ps) : callF F (k + 1) i as S = finR fn.pure S.length (exec (callF F k) fn.body (as.map some ++ List.replicate (fn.n - fn.ps) none) S) := by
  rw [callF]
  simp only [hf, hl, if_true]
  unfold finR
  cases exec (callF F k) fn.body (as.map some ++ List.replicate (fn.n - fn.ps) none) S with
  | ok fl S' => cases fl <;> rfl
  | _ => rfl
mutual
theorem fz_below {S : Store} {b : Nat} : ∀ {d : D}, below b d = true → fz S b d = some d
  | .non, _ => rfl
  | .bl _, _ => rfl
  | .int _, _ => rfl
  | .str _, _ => rfl
  | .tup l, h => by
    show (fzs S b l).map D.tup = _
    rw [fzs_below (show belows b l = true from h)] <;> rfl
  | .lst l, h => by
    show (if belows b l = true then some (D.lst l) else none) = _
    rw [if_pos (show belows b l = true from h)]
  | .scr l, h => by
    show (if belows b l = true then some (D.scr l) else none) = _
    rw [if_pos (show belows b l = true from h)]
  | .ref n, h => by
    show (if n < b then some (D.ref n) else _) = _
    rw [if_pos (of_decide_eq_true h)]
theorem fzs_below {S : Store} {b : Nat} : ∀ {d : List D}, belows b d = true → fzs S b d = some d
  | [], _ => rfl
  | x :: xs, h => by
    have h' := Bool.and_eq_true_iff.mp (show (below b x && belows b xs) = true from h)
    show (match fz S b x, fzs S b xs with
      | some y, some ys => some (y :: ys)
      | _, _ => none) = _
    rw [fz_below h'.1, fzs_below h'.2]
end
/-- a pure def that ends with plain data -/
theorem finR_rt {b : Nat} {d : D} {S : Store} (h : below b d = true) : finR true b (.ok (.rt d) S) = .ok d (S.take b) := by
  show finF true b d S = _
  unfold finF
  simp only [if_true]
  rw [fz_below h]
theorem finR_nx {b : Nat} {ρ : Ev} {S : Store} : finR true b (.ok (.nx ρ) S) = .ok .non (S.take b) := rfl
end Pf
namespace Pf
section
variable (cl : Nat → List D → M D) (ρ : Ev) (S : Store)
/-- a while, by its texts -/
def whlE (c : E) (b : St) : Nat → Ev → Store → R Fl
  | 0, _, _ => .no
  | n + 1, ρ, S => rb (ev cl c ρ S) fun x S => rb (truR x S) fun t S => if t then rb (exec cl b ρ S) fun r S => flR r S fun ρ S => whlE c b n ρ S else .ok (.nx ρ) S
theorem whlE_succ (c : E) (b : St) (n : Nat) : whlE cl c b (n + 1) ρ S = rb (ev cl c ρ S) fun x S => rb (truR x S) fun t S => if t then rb (exec cl b ρ S) fun r S => flR r S fun ρ S => whlE cl c b n ρ S else .ok (.nx ρ) S := rfl
theorem whlF_E (c : E) (b : St) : ∀ (n : Nat) (ρ : Ev) (S : Store), whlF (fun ρ => test (ev cl c ρ)) (fun ρ => exec cl b ρ) n ρ S = whlE cl c b n ρ S
  | 0, _, _ => rfl
  | n + 1, ρ, S => by
    rw [whlF, whlE_succ]; simp only [bind_rb, test_rb]
    cases ev cl c ρ S with
    | ok x S1 =>
      cases x with
      | bl t =>
        cases t with
        | false => rfl
        | true =>
          simp only [rb_ok, truR_bl, if_true, bind_rb]; congr 1; funext r S
          cases r with
          | nx ρ => exact whlF_E c b n ρ S
          | rt d => rfl
      | _ => rfl
    | _ => rfl
@[simp] theorem ex_whl {c : E} {b : St} : exec cl (.whl c b) ρ S = whlE cl c b WF ρ S := by
  rw [exec]; exact whlF_E cl c b WF ρ S
end
@[simp] theorem szR_one {x : D} {S : Store} {k : Store → R D} : szR [x] S k = k S := if_pos (by show 1 ≤ LINE; decide)
@[simp] theorem szR_nil {S : Store} {k : Store → R D} : szR [] S k = k S := if_pos (by decide)
@[simp] theorem szR_two {x y : D} {S : Store} {k : Store → R D} : szR [x, y] S k = k S := if_pos (by show 2 ≤ LINE; decide)
@[simp] theorem szR_three {x y z : D} {S : Store} {k : Store → R D} : szR [x, y, z] S k = k S := if_pos (by show 3 ≤ LINE; decide)
@[simp] theorem szR_4 {x y z u : D} {S : Store} {k : Store → R D} : szR [x, y, z, u] S k = k S := if_pos (by show 4 ≤ LINE; decide)
@[simp] theorem szR_5 {x y z u v : D} {S : Store} {k : Store → R D} : szR [x, y, z, u, v] S k = k S := if_pos (by show 5 ≤ LINE; decide)
@[simp] theorem szR_6 {x y z u v w : D} {S : Store} {k : Store → R D} : szR [x, y, z, u, v, w] S k = k S := if_pos (by show 6 ≤ LINE; decide)
@[simp] theorem szR_7 {x y z u v w t : D} {S : Store} {k : Store → R D} : szR [x, y, z, u, v, w, t] S k = k S := if_pos (by show 7 ≤ LINE; decide)
section
variable {S : Store} {i j : Int}
@[simp] theorem opF_addI : opF .add (.int i) (.int j) S = .ok (.int (i + j)) S := rfl
@[simp] theorem opF_subI : opF .sub (.int i) (.int j) S = .ok (.int (i - j)) S := rfl
theorem opF_mulI (h : mulOk i j = true) : opF .mul (.int i) (.int j) S = .ok (.int (i * j)) S := by
  show (if mulOk i j = true then R.ok (D.int (i * j)) S else .no) = _
  rw [if_pos h]
theorem opF_modI (h : j ≠ 0) : opF .mod (.int i) (.int j) S = .ok (.int (i.fmod j)) S := if_pos h
theorem opF_fdivI (h : j ≠ 0) (h2 : j.natAbs < 2 ^ 8999) : opF .fdiv (.int i) (.int j) S = .ok (.int (i.fdiv j)) S := if_pos ⟨h, h2⟩
@[simp] theorem cmpF_ltI : cmpF .lt (.int i) (.int j) S = .ok (.bl (decide (i < j))) S := rfl
@[simp] theorem cmpF_leI : cmpF .le (.int i) (.int j) S = .ok (.bl (decide (i ≤ j))) S := rfl
@[simp] theorem cmpF_gtI : cmpF .gt (.int i) (.int j) S = .ok (.bl (decide (j < i))) S := rfl
@[simp] theorem cmpF_geI : cmpF .ge (.int i) (.int j) S = .ok (.bl (decide (j ≤ i))) S := rfl
@[simp] theorem cmpF_eqI : cmpF .eq (.int i) (.int j) S = .ok (.bl (i == j)) S := rfl
@[simp] theorem cmpF_neI : cmpF .ne (.int i) (.int j) S = .ok (.bl (!(i == j))) S := rfl
@[simp] theorem biF_absI : biF .abs [.int i] S = .ok (.int (if i < 0 then -i else i)) S := rfl
@[simp] theorem biF_intI : biF .int [.int i] S = .ok (.int i) S := rfl
@[simp] theorem biF_intB {b : Bool} : biF .int [.bl b] S = .ok (.int (if b then 1 else 0)) S := rfl
@[simp] theorem biF_max2I : biF .max2 [.int i, .int j] S = .ok (.int (if j > i then j else i)) S := rfl
@[simp] theorem biF_min2I : biF .min2 [.int i, .int j] S = .ok (.int (if j < i then j else i)) S := rfl
@[simp] theorem biF_lenT {l : List D} : biF .len [.tup l] S = .ok (.int l.length) S := rfl
@[simp] theorem biF_lenL {l : List D} : biF .len [.lst l] S = .ok (.int l.length) S := rfl
@[simp] theorem biF_lenS {l : List D} : biF .len [.scr l] S = .ok (.int l.length) S := rfl
end
end Pf

set_option linter.all false
set_option Elab.async false
set_option maxRecDepth 100000
set_option maxHeartbeats 1000000
set_option autoImplicit false
/-! PfA1: whole numbers and fractions -/
namespace Pf
theorem fmod_nat {a b : Nat} : (a : Int).fmod b = ((a % b : Nat) : Int) := by
  rw [Int.fmod_eq_emod_of_nonneg _ (Int.natCast_nonneg b)]
  exact (Int.natCast_emod a b).symm
theorem lt_WF {n : Nat} (h : n < 2 ^ 1000) : n + 1 < WF := by
  unfold WF
  have : (2 : Nat) ^ 1000 + 1 < 2 ^ 100000 := Nat.lt_of_lt_of_le (m := 2 ^ 1001) (by decide) (Nat.pow_le_pow_right (by decide) (by decide))
  omega
theorem divisor_ok {k : Nat} {a : Int} {b : Nat} {S : Store} (hb : b < 2 ^ 1000) : callF FF (k + 1) 1 [.int a, .int b] S = .ok (.int (Nat.gcd a.natAbs b)) S := by
  have loop : ∀ (n : Nat) (a b : Nat), b < n → whlE (callF FF k) (.cmp .gt (.var 1) (.con (.int 0))) (.seq (.asg (.tup [(.name 0), (.name 1)]) (.tup (.cons (.var 1) (.cons (.bin .mod (.bi .int (.cons (.var 0) .nil)) (.var 1)) .nil))))
    .skip) n [some (.int a), some (.int b)] S = .ok (.nx [some (.int (Nat.gcd a b)), some (.int 0)]) S := by
    intro n
    induction n with
    | zero => intro a b h; omega
    | succ n ih =>
      intro a b h
      rw [whlE_succ]
      by_cases hb : b = 0
      · subst hb
        simp
      · have hp : 0 < b := by omega
        have hz : (b : Int) ≠ 0 := by omega
        simp [hp, opF_modI hz, fmod_nat]
        have := ih b (a % b) (by have := Nat.mod_lt a hp; omega)
        simp at this
        rw [this, Nat.gcd_comm b, ← Nat.gcd_rec, Nat.gcd_comm]
  rw [call_eq F_1 rfl]
  have ha : (if a < 0 then -a else a) = (a.natAbs : Int) := by split <;> omega
  have h2 := loop WF a.natAbs b (by have := lt_WF hb; omega)
  simp [f1, ha] at h2 ⊢
  rw [h2]
  simp
  rw [finR_rt rfl, List.take_length]
theorem gcd_pos {p q : Int} (hq : 0 < q) : 0 < Int.gcd p q := Int.gcd_pos_of_ne_zero_right _ (by omega)
theorem gcd_le {p q : Int} (hq : 0 < q) : (Int.gcd p q : Int) ≤ q := Int.le_of_dvd hq (Int.gcd_dvd_right ..)
/-- a fraction in lowest terms -/
def can (p q : Int) : Int × Int := (p / Int.gcd p q, q / Int.gcd p q)
def fr (f : Int × Int) : D := .tup [.int f.1, .int f.2]
theorem fdiv_nat {a : Int} {g : Nat} : a.fdiv g = a / g := Int.fdiv_eq_ediv_of_nonneg _ (Int.natCast_nonneg g)
theorem lt_8999 {n : Nat} (h : n < 2 ^ 1000) : n < 2 ^ 8999 := Nat.lt_of_lt_of_le h (Nat.pow_le_pow_right (by decide) (by decide))
theorem divisor_int {k : Nat} {a b : Int} {S : Store} (hb : 0 ≤ b) (hb2 : b < 2 ^ 1000) : callF FF (k + 1) 1 [.int a, .int b] S = .ok (.int (Int.gcd a b)) S := by
  obtain ⟨n, rfl⟩ := Int.eq_ofNat_of_zero_le hb
  have : n < 2 ^ 1000 := by exact_mod_cast hb2
  rw [divisor_ok this]
  rfl
theorem least_ok {k : Nat} {p q : Int} {S : Store} (hq : 0 < q) (hb : q < 2 ^ 1000) : callF FF (k + 2) 2 [.int p, .int q] S = .ok (fr (can p q)) S := by
  rw [call_eq F_2 rfl]
  have h0 : ¬ q < 0 := by omega
  have g0 := gcd_pos (p := p) hq
  have g1 : ((Int.gcd p q : Nat) : Int) ≠ 0 := by omega
  have g2 : (((Int.gcd p q : Nat) : Int)).natAbs < 2 ^ 8999 := by
    have := gcd_le (p := p) hq
    exact lt_8999 (by omega)
  simp [f2, h0, divisor_int (Int.le_of_lt hq) hb, opF_fdivI g1 g2]
  rw [finR_rt rfl, List.take_length, fdiv_nat, fdiv_nat]
  rfl
/-! multiplying small numbers -/
def Sm (i : Int) : Prop := i.natAbs < 2 ^ 1000
theorem mulOk_sm {i j : Int} (h1 : Sm i) (h2 : Sm j) : mulOk i j = true := by
  unfold mulOk
  have hB : (2 : Nat) ^ 1000 ≤ BIG := Nat.pow_le_pow_right (by decide) (by decide)
  have b1 : i.natAbs < BIG := Nat.lt_of_lt_of_le h1 hB
  have b2 : j.natAbs < BIG := Nat.lt_of_lt_of_le h2 hB
  simp only [b1, b2, decide_true, Bool.and_self, Bool.or_true]
theorem mul_sm {i j : Int} {S : Store} (h1 : Sm i) (h2 : Sm j) : opF .mul (.int i) (.int j) S = .ok (.int (i * j)) S := opF_mulI (mulOk_sm h1 h2)
theorem atI_nat {α : Type} {l : List α} {n : Nat} : L2.atI l (n : Int) = l[n]? := by
  unfold L2.atI L2.ixN
  rw [if_pos (Int.natCast_nonneg n)]
  by_cases h : n < l.length
  · rw [if_pos (by omega)]
    simp
  · rw [if_neg (by omega)]
    simp
    omega
def atR (o : Option D) (S : Store) : R D := match o with
  | some d => .ok d S
  | none => .no
@[simp] theorem atR_some (d : D) (S : Store) : atR (some d) S = .ok d S := rfl
theorem idxF_tI {l : List D} {S : Store} {i : Int} : idxF (.tup l) (.int i) S = atR (L2.atI l i) S := by
  show (match L2.atI l i with | some d => R.ok d S | none => .no) = _
  cases L2.atI l i <;> rfl
theorem idxF_lI {l : List D} {S : Store} {i : Int} : idxF (.lst l) (.int i) S = atR (L2.atI l i) S := by
  show (match L2.atI l i with | some d => R.ok d S | none => .no) = _
  cases L2.atI l i <;> rfl
theorem idxF_t {l : List D} {S : Store} {x : D} {n : Nat} (h : l[n]? = some x) : idxF (.tup l) (.int n) S = .ok x S := by
  rw [idxF_tI, atI_nat, h] <;> rfl
theorem idxF_l {l : List D} {S : Store} {x : D} {n : Nat} (h : l[n]? = some x) : idxF (.lst l) (.int n) S = .ok x S := by
  rw [idxF_lI, atI_nat, h] <;> rfl
section
variable {l : List D} {S : Store} {a b c d e x : D}
@[simp] theorem idxF_t0 : idxF (.tup (x :: l)) (.int 0) S = .ok x S := idxF_t (n := 0) rfl
@[simp] theorem idxF_t1 : idxF (.tup (a :: x :: l)) (.int 1) S = .ok x S := idxF_t (n := 1) rfl
@[simp] theorem idxF_t2 : idxF (.tup (a :: b :: x :: l)) (.int 2) S = .ok x S := idxF_t (n := 2) rfl
@[simp] theorem idxF_t3 : idxF (.tup (a :: b :: c :: x :: l)) (.int 3) S = .ok x S := idxF_t (n := 3) rfl
@[simp] theorem idxF_t4 : idxF (.tup (a :: b :: c :: d :: x :: l)) (.int 4) S = .ok x S := idxF_t (n := 4) rfl
@[simp] theorem idxF_t5 : idxF (.tup (a :: b :: c :: d :: e :: x :: l)) (.int 5) S = .ok x S := idxF_t (n := 5) rfl
@[simp] theorem idxF_l0 : idxF (.lst (x :: l)) (.int 0) S = .ok x S := idxF_l (n := 0) rfl
end
/-! the fractions' defs -/
section
variable {k : Nat} {S : Store}
theorem below_fr {b : Nat} {f : Int × Int} : below b (fr f) = true := rfl
theorem plus_ok {f g : Int × Int} (h1 : Sm f.1) (h2 : Sm f.2) (h3 : Sm g.1) (h4 : Sm g.2) (hp : 0 < f.2 * g.2) (hb : f.2 * g.2 < 2 ^ 1000) :
    callF FF (k + 3) 8 [fr f, fr g] S = .ok (fr (can (f.1 * g.2 + g.1 * f.2) (f.2 * g.2))) S := by
  rw [call_eq F_8 rfl]
  simp [f8, fr, mul_sm, h1, h2, h3, h4, least_ok hp hb]
  rw [finR_rt rfl, List.take_length]
theorem times_ok {f : Int × Int} {m : Int} (h1 : Sm f.1) (h2 : Sm m) (hp : 0 < f.2) (hb : f.2 < 2 ^ 1000) :
    callF FF (k + 3) 3 [fr f, .int m] S = .ok (fr (can (f.1 * m) f.2)) S := by
  rw [call_eq F_3 rfl]
  simp [f3, fr, mul_sm, h1, h2, least_ok hp hb]
  rw [finR_rt rfl, List.take_length]
theorem is_below_ok {f g : Int × Int} (h1 : Sm f.1) (h2 : Sm f.2) (h3 : Sm g.1) (h4 : Sm g.2) :
    callF FF (k + 1) 0 [fr f, fr g] S = .ok (.bl (decide (f.1 * g.2 < g.1 * f.2))) S := by
  rw [call_eq F_0 rfl]
  simp [f0, fr, mul_sm, h1, h2, h3, h4]
  rw [finR_rt rfl, List.take_length]
end
end Pf

set_option linter.all false
set_option Elab.async false
set_option maxRecDepth 100000
set_option autoImplicit false
/-! PfRep: repr of plain data -/
namespace Pf
open PySem
mutual
/-- plain data: no cell, its ints below 2 ** 200 -/
def sh : D → Bool
  | .non => true
  | .bl _ => true
  | .int i => decide (i.natAbs < 2 ^ 200)
  | .str s => s.all (· < 0x110000)
  | .tup l => shs l
  | .lst l => shs l
  | .ref _ => false
  | .scr _ => false
def shs : List D → Bool
  | [] => true
  | x :: xs => sh x && shs xs
end
mutual
def wD : D → Nat
  | .int _ => 201
  | .str s => s.length
  | .tup l => wDs l
  | .lst l => wDs l
  | _ => 0
def wDs : List D → Nat
  | [] => 0
  | x :: xs => wD x + 1 + wDs xs
end
theorem shs_iff {l : List D} : shs l = true ↔ ∀ x ∈ l, sh x = true := by
  induction l with
  | nil => simp [shs]
  | cons x xs ih => simp [shs, ih]
theorem wDs_append {a b : List D} : wDs (a ++ b) = wDs a + wDs b := by
  induction a with
  | nil => simp [wDs]
  | cons x xs ih => simp [wDs, ih]; omega
theorem wDs_le {l : List D} {n : Nat} (h : ∀ x ∈ l, wD x ≤ n) : wDs l ≤ l.length * (n + 1) := by
  induction l with
  | nil => simp [wDs]
  | cons x xs ih =>
    have h1 := h x List.mem_cons_self
    have h2 := ih fun y hy => h y (List.mem_cons_of_mem _ hy)
    simp only [wDs, List.length_cons, Nat.add_mul]
    omega
theorem log2_200 {n : Nat} (h : n < 2 ^ 200) : n.log2 < 200 := by
  by_cases h0 : n = 0
  · subst h0; decide
  · exact (Nat.log2_lt h0).mpr h
mutual
theorem sh_cl : ∀ {d : D}, sh d = true → cl d = true
  | .non, _ => rfl
  | .bl _, _ => rfl
  | .int _, _ => rfl
  | .str s, h => h
  | .tup l, h => shs_cl (l := l) h
  | .lst l, h => shs_cl (l := l) h
theorem shs_cl : ∀ {l : List D}, shs l = true → cls l = true
  | [], _ => rfl
  | x :: xs, h => by
    have h' := Bool.and_eq_true_iff.mp (show (sh x && shs xs) = true from h)
    show (cl x && cls xs) = true
    rw [sh_cl h'.1, shs_cl h'.2] <;> rfl
end
mutual
theorem sh_below {b : Nat} : ∀ {d : D}, sh d = true → below b d = true
  | .non, _ => rfl
  | .bl _, _ => rfl
  | .int _, _ => rfl
  | .str s, h => rfl
  | .tup l, h => shs_below (l := l) h
  | .lst l, h => shs_below (l := l) h
theorem shs_below {b : Nat} : ∀ {l : List D}, shs l = true → belows b l = true
  | [], _ => rfl
  | x :: xs, h => by
    have h' := Bool.and_eq_true_iff.mp (show (sh x && shs xs) = true from h)
    show (below b x && belows b xs) = true
    rw [sh_below h'.1, shs_below h'.2] <;> rfl
end
mutual
theorem sh_showable : ∀ {d : D}, sh d = true → (toPy d).showable = true
  | .non, _ => rfl
  | .bl _, _ => rfl
  | .int i, h => by
    have h1 : i.natAbs < 2 ^ 200 := of_decide_eq_true h
    show decide (i.natAbs.log2 < 1920) = true
    have := log2_200 h1
    exact decide_eq_true (by omega)
  | .str s, h => rfl
  | .tup l, h => shs_showable (l := l) h
  | .lst l, h => shs_showable (l := l) h
theorem shs_showable : ∀ {l : List D}, shs l = true → PyData.showableAll (toPys l) = true
  | [], _ => rfl
  | x :: xs, h => by
    have h' := Bool.and_eq_true_iff.mp (show (sh x && shs xs) = true from h)
    show (PyData.showable (toPy x) && PyData.showableAll (toPys xs)) = true
    rw [sh_showable h'.1, shs_showable h'.2] <;> rfl
end
mutual
theorem sh_leaves : ∀ {d : D}, sh d = true → (toPy d).leavesShort 62 = true
  | .non, _ => rfl
  | .bl _, _ => rfl
  | .int i, h => by
    have h1 : i.natAbs < 2 ^ 200 := of_decide_eq_true h
    show decide ((PyData.shown (.int i)).length ≤ 62) = true
    refine decide_eq_true ?_
    have e := int_text_length_le10 (k := 61) (by decide) (Nat.lt_of_lt_of_le h1 (by decide))
    show (Str.ofString (toString i)).length ≤ 62
    rw [ofString_length]; exact e
  | .str s, h => by
    show (s.toArray.toList.all fun c => decide (c < 16 ^ 8)) = true
    rw [List.toList_toArray, List.all_eq_true]
    intro c hc
    have h2 := List.all_eq_true.mp (show (s.all (· < 0x110000)) = true from h) c hc
    have h3 : c < 0x110000 := of_decide_eq_true h2
    exact decide_eq_true (by have e : (16 : Nat) ^ 8 = 4294967296 := by decide
                             omega)
  | .tup l, h => shs_leaves (l := l) h
  | .lst l, h => shs_leaves (l := l) h
theorem shs_leaves : ∀ {l : List D}, shs l = true → PyData.leavesShortAll 62 (toPys l) = true
  | [], _ => rfl
  | x :: xs, h => by
    have h' := Bool.and_eq_true_iff.mp (show (sh x && shs xs) = true from h)
    show (PyData.leavesShort 62 (toPy x) && PyData.leavesShortAll 62 (toPys xs)) = true
    rw [sh_leaves h'.1, shs_leaves h'.2] <;> rfl
end
mutual
theorem sh_weight : ∀ {d : D}, sh d = true → (toPy d).weight ≤ wD d
  | .non, _ => Nat.le_refl _
  | .bl _, _ => Nat.le_refl _
  | .int i, h => by
    have h1 : i.natAbs < 2 ^ 200 := of_decide_eq_true h
    show (if i == 0 then 0 else i.natAbs.log2 + 1) ≤ 201
    have := log2_200 h1
    split <;> omega
  | .str s, h => by
    show s.toArray.size ≤ s.length
    simp
  | .tup l, h => shs_weight (l := l) h
  | .lst l, h => shs_weight (l := l) h
theorem shs_weight : ∀ {l : List D}, shs l = true → PyData.weightAll (toPys l) ≤ wDs l
  | [], _ => Nat.le_refl _
  | x :: xs, h => by
    have h' := Bool.and_eq_true_iff.mp (show (sh x && shs xs) = true from h)
    have h1 := sh_weight h'.1
    have h2 := shs_weight h'.2
    show (toPy x).weight + 1 + PyData.weightAll (toPys xs) ≤ wD x + 1 + wDs xs
    omega
end
theorem der_sh {d : D} {S : Store} (h : sh d = true) : der S d = d := by
  cases d with
  | ref n => cases h
  | _ => rfl
/-- plain data that is no large text -/
def Pl (d : D) : Prop := sh d = true ∧ wD d ≤ 200000 ∧ dep d ≤ 60
theorem repr_ok {d : D} {S : Store} (h : Pl d) : biF .repr [d] S = .ok (.str (shownD d)) S := by
  obtain ⟨h1, h2, h3⟩ := h
  show (if okD (der S d) && (toPy (der S d)).showable && decide ((shownD (der S d)).length ≤ LINE) then R.ok (D.str (shownD (der S d))) S else .no) = _
  rw [der_sh h1]
  have c1 : okD d = true := by unfold okD; rw [sh_cl h1]; exact decide_eq_true h3
  have c2 := sh_showable h1
  have c3 : decide ((shownD d).length ≤ LINE) = true := by
    refine decide_eq_true ?_
    have := PyData.shown_le 62 (by decide) (toPy d) (sh_leaves h1)
    have w := sh_weight h1
    have e : (shownD d).length = (toPy d).shown.length := by unfold shownD; simp [Str.length]
    rw [e]
    unfold LINE
    omega
  rw [c1, c2, c3]
  rfl
theorem okD_of {d : D} (h : sh d = true) (h3 : dep d ≤ 60) : okD d = true := by unfold okD; rw [sh_cl h]; exact decide_eq_true h3
mutual
theorem eqD_refl : ∀ {d : D}, sh d = true → eqD d d = true
  | .non, _ => rfl
  | .bl a, _ => by show (a == a) = true; simp
  | .int i, _ => by show (i == i) = true; simp
  | .str s, _ => by show (s == s) = true; simp
  | .tup l, h => eqDs_refl (l := l) h
  | .lst l, h => eqDs_refl (l := l) h
theorem eqDs_refl : ∀ {l : List D}, shs l = true → eqDs l l = true
  | [], _ => rfl
  | x :: xs, h => by
    have h' := Bool.and_eq_true_iff.mp (show (sh x && shs xs) = true from h)
    show (eqD x x && eqDs xs xs) = true
    rw [eqD_refl h'.1, eqDs_refl h'.2] <;> rfl
end
end Pf

set_option linter.all false
set_option Elab.async false
set_option maxRecDepth 100000
set_option maxHeartbeats 1000000
set_option autoImplicit false
/-! PfA2: the law's draws -/
namespace Pf
def kLeft : D := .str [108, 101, 102, 116]
def kSpot : D := .str [115, 112, 111, 116]
def kCells : D := .str [99, 101, 108, 108, 115]
def md (cells : List Int) (left spot : Int) : Ob := .dic [(kCells, .lst (cells.map .int)), (kLeft, .int left), (kSpot, .int spot)]
/-- the state of the draws; B bounds the spot -/
def RngO (B : Nat) (ob : Ob) : Prop := ∃ cells left spot, ob = md cells left spot ∧ cells ≠ [] ∧ 0 ≤ left ∧ 0 ≤ spot ∧ spot ≤ B
def Rng (n : Nat) (B : Nat) (S : Store) : Prop := ∃ ob, S[n]? = some ob ∧ RngO B ob
theorem idxF_dic {S : Store} {n : Nat} {kvs : List (D × D)} {k : D} (h : S[n]? = some (.dic kvs)) (hk : keyOk k = true) : idxF (.ref n) k S = atR (lookD k kvs) S := by
  show (match S[n]? with
    | some (.lst l) => match k with
      | .int k => match L2.atI l k with | some d => R.ok d S | none => .no
      | _ => .no
    | some (.dic kvs) => if keyOk k then match lookD k kvs with | some d => .ok d S | none => .no else .no
    | _ => .no) = _
  rw [h]
  simp only [hk, if_true]
  cases lookD k kvs <;> rfl
theorem setF_dic {S : Store} {n : Nat} {kvs : List (D × D)} {k v : D} (h : S[n]? = some (.dic kvs)) (hk : keyOk k = true) (hl : kvs.length < LINE) (hb : below n v = true) : setF (.ref n) k v S = .ok () (S.set n (.dic (putD k v kvs))) := by
  show (match S[n]? with
    | some (.lst l) => match k with
      | .int k => match L2.ixN l.length k with | some j => if below n v then R.ok () (S.set n (.lst (l.set j v))) else .no | none => .no
      | _ => .no
    | some (.dic kvs) => if keyOk k && decide (kvs.length < LINE) && below n v then .ok () (S.set n (.dic (putD k v kvs))) else .no
    | _ => .no) = _
  rw [h]
  simp only [hk, hl, hb, decide_true, Bool.and_self, if_true]
theorem lt_of_get {S : Store} {n : Nat} {o : Ob} (h : S[n]? = some o) : n < S.length := (List.getElem?_eq_some_iff.mp h).1
theorem set_same {S : Store} {n : Nat} {o o' : Ob} (h : S[n]? = some o) : (S.set n o')[n]? = some o' := List.getElem?_set_self (lt_of_get h)
theorem fmod_range {a b : Int} (hb : 0 < b) : 0 ≤ a.fmod b ∧ a.fmod b < b := by
  rw [Int.fmod_eq_emod_of_nonneg _ (Int.le_of_lt hb)]
  exact ⟨Int.emod_nonneg _ (by omega), Int.emod_lt_of_pos _ hb⟩
theorem mulOk_l {i j : Int} (h : i.natAbs < 2 ^ 63) : mulOk i j = true := by
  unfold mulOk B64
  simp only [h, decide_true, Bool.true_or]
theorem mulOk_r {i j : Int} (h : j.natAbs < 2 ^ 63) : mulOk i j = true := by
  unfold mulOk B64
  simp only [h, decide_true, Bool.true_or, Bool.or_true]
theorem draw_ok {k n B : Nat} {limit : Int} {S : Store} (h : Rng n B S) (hB : B < 2 ^ 60) (h0 : 0 < limit) (h1 : limit < 2 ^ 60) :
    ∃ d ob, callF FF (k + 1) 39 [.ref n, .int limit] S = .ok (.int d) (S.set n ob) ∧ 0 ≤ d ∧ d < limit ∧ RngO (B + 1) ob := by
  obtain ⟨ob, hn, cells, left, spot, rfl, hc, hl, hs, hsB⟩ := h
  have hlim : limit ≠ 0 := by omega
  have hlim2 : limit.natAbs < 2 ^ 8999 := Nat.lt_of_lt_of_le (m := 2 ^ 60) (by omega) (Nat.pow_le_pow_right (by decide) (by decide))
  have eL : ∀ (l s : Int), idxF (.ref n) kLeft S = _ := fun _ _ => idxF_dic hn rfl
  have iL : idxF (.ref n) (.str [108, 101, 102, 116]) S = .ok (.int left) S := by rw [idxF_dic hn rfl]; rfl
  have iS : idxF (.ref n) (.str [115, 112, 111, 116]) S = .ok (.int spot) S := by rw [idxF_dic hn rfl]; rfl
  have nS := lt_of_get hn
  rw [call_eq F_39 rfl]
  by_cases hp : 0 < left
  · have sL : setF (.ref n) (.str [108, 101, 102, 116]) (.int (left.fdiv limit)) S = .ok () (S.set n (md cells (left.fdiv limit) spot)) := by
      rw [setF_dic hn rfl (show 3 < LINE by decide) rfl]; rfl
    refine ⟨left.fmod limit, md cells (left.fdiv limit) spot, ?_, (fmod_range h0).1, (fmod_range h0).2, cells, _, _, rfl, hc, ?_, hs, by omega⟩
    · simp [f39, iL, hp, opF_modI hlim, opF_fdivI hlim hlim2, sL]
      rw [finR_rt rfl]
      congr 1
      rw [← List.length_set (i := n) (a := md cells (left.fdiv limit) spot) (as := S), List.take_length]
    · rw [Int.fdiv_eq_ediv_of_nonneg _ (Int.le_of_lt h0)]
      exact Int.ediv_nonneg hl (Int.le_of_lt h0)
  · have sS : setF (.ref n) (.str [115, 112, 111, 116]) (.int (spot + 1)) S = .ok () (S.set n (md cells left (spot + 1))) := by
      rw [setF_dic hn rfl (show 3 < LINE by decide) rfl]; rfl
    have hn2 : (S.set n (md cells left (spot + 1)))[n]? = some (md cells left (spot + 1)) := set_same hn
    have iC : idxF (.ref n) (.str [99, 101, 108, 108, 115]) (S.set n (md cells left (spot + 1))) = .ok (.lst (cells.map .int)) (S.set n (md cells left (spot + 1))) := by rw [idxF_dic hn2 rfl]; rfl
    have hcl : ((cells.map D.int).length : Int) ≠ 0 := by
      cases cells with
      | nil => exact absurd rfl hc
      | cons _ _ => simp; omega
    have hcp : (0 : Int) < ((cells.map D.int).length : Int) := by omega
    obtain ⟨r1, r2⟩ := fmod_range (a := spot + 1) hcp
    obtain ⟨j, hj⟩ := Int.eq_ofNat_of_zero_le r1
    have hj2 : j < cells.length := by rw [hj] at r2; simp at r2; exact r2
    obtain ⟨c, hcj⟩ : ∃ c, cells[j]? = some c := ⟨cells[j], List.getElem?_eq_getElem hj2⟩
    have iX : ∀ S', idxF (.lst (cells.map .int)) (.int ((spot + 1).fmod ((cells.map D.int).length : Int))) S' = .ok (.int c) S' := fun S' => by
      rw [hj]
      exact idxF_l (by rw [List.getElem?_map, hcj]; rfl)
    have m1 : mulOk 6133 (spot + 1) = true := mulOk_l (by decide)
    have m2 : mulOk 23 (spot + 1) = true := mulOk_l (by decide)
    have m3 : mulOk (23 * (spot + 1)) (spot + 1) = true := mulOk_r (by omega)
    have m4 : ∀ x, mulOk x 48271 = true := fun x => mulOk_r (by decide)
    have m5 : mulOk 93241 (spot + 1) = true := mulOk_l (by decide)
    have m6 : ∀ x, mulOk x 69621 = true := fun x => mulOk_r (by decide)
    have z1 : ∀ (x : Int) (S : Store), opF .mod (.int x) (.int 2147483629) S = _ := fun x S => opF_modI (by decide)
    have z2 : ∀ (x : Int) (S : Store), opF .mod (.int x) (.int 2147483647) S = _ := fun x S => opF_modI (by decide)
    have z3 : ∀ (x : Int) (S : Store), opF .mod (.int x) (.int 2147483587) S = _ := fun x S => opF_modI (by decide)
    have z4 : ∀ (x : Int) (S : Store), opF .fdiv (.int x) (.int 13) S = _ := fun x S => opF_fdivI (by decide) (lt_8999 (by decide))
    have key : finR f39.pure (List.length S) (exec (callF FF k) f39.body (List.map some [D.ref n, D.int limit] ++ List.replicate (f39.n - f39.ps) none) S) =
        .ok (.int (((((((c.fmod 2147483629 + 6133 * (spot + 1) + 23 * (spot + 1) * (spot + 1)) * 48271).fmod 2147483647 + 93241 * (spot + 1)) * 69621).fmod 2147483587).fdiv 13).fmod limit)) (S.set n (md cells left (spot + 1))) := by
      simp only [List.length_map] at hcl iX
      simp [f39, iL, hp, iS, sS, iC, opF_modI hcl, iX, z1, z2, z3, z4, opF_mulI, m1, m2, m3, m4, m5, m6, opF_modI hlim]
      rw [finR_rt rfl]
      congr 1
      rw [← List.length_set (i := n) (a := md cells left (spot + 1)) (as := S), List.take_length]
    exact ⟨_, md cells left (spot + 1), key, (fmod_range h0).1, (fmod_range h0).2, cells, _, _, rfl, hc, hl, by omega, by omega⟩
end Pf

set_option linter.all false
set_option Elab.async false
set_option maxRecDepth 100000
set_option maxHeartbeats 1000000
set_option autoImplicit false
/-! PfA3: goods drawn -/
namespace Pf
/-- the two states: the draws at n, what is left at m -/
def st2 (S : Store) (n m : Nat) (o l : Ob) : Store := (S.set n o).set m l
structure At2 (S : Store) (n m : Nat) : Prop where
  hn : n < S.length
  hm : m < S.length
  ne : n ≠ m
section
variable {S : Store} {n m : Nat} {o l o' l' : Ob}
theorem st2_len : (st2 S n m o l).length = S.length := by simp [st2]
theorem st2_n (h : At2 S n m) : (st2 S n m o l)[n]? = some o := by
  unfold st2
  rw [List.getElem?_set_ne (Ne.symm h.ne), List.getElem?_set_self h.hn]
theorem st2_m (h : At2 S n m) : (st2 S n m o l)[m]? = some l := by
  unfold st2
  rw [List.getElem?_set_self (by rw [List.length_set]; exact h.hm)]
theorem st2_set_n (h : At2 S n m) : (st2 S n m o l).set n o' = st2 S n m o' l := by
  unfold st2
  rw [List.set_comm _ _ h.ne.symm, List.set_set]
theorem st2_set_m : (st2 S n m o l).set m l' = st2 S n m o l' := by
  unfold st2
  rw [List.set_set]
theorem set_get {S : Store} {n : Nat} {o : Ob} (h : S[n]? = some o) : S.set n o = S := by
  apply List.ext_getElem?
  intro i
  by_cases e : n = i
  · subst e; rw [List.getElem?_set_self (lt_of_get h), h]
  · rw [List.getElem?_set_ne e]
theorem st2_self (h : At2 S n m) (h1 : S[n]? = some o) (h2 : S[m]? = some l) : st2 S n m o l = S := by
  unfold st2
  rw [set_get h1, set_get h2]
theorem take_st2 : (st2 S n m o l).take S.length = st2 S n m o l := by
  rw [← st2_len (S := S) (n := n) (m := m) (o := o) (l := l), List.take_length]
end
section
variable {S : Store} {n m B k : Nat} {o l : Ob}
theorem draw2 (h : At2 S n m) (hr : RngO B o) {limit : Int} (hB : B < 2 ^ 60) (h0 : 0 < limit) (h1 : limit < 2 ^ 60) :
    ∃ d o', callF FF (k + 1) 39 [.ref n, .int limit] (st2 S n m o l) = .ok (.int d) (st2 S n m o' l) ∧ 0 ≤ d ∧ d < limit ∧ RngO (B + 1) o' := by
  obtain ⟨d, o', e, r1, r2, r3⟩ := draw_ok (k := k) (n := n) (S := st2 S n m o l) ⟨o, st2_n h, hr⟩ hB h0 h1
  rw [st2_set_n h] at e
  exact ⟨d, o', e, r1, r2, r3⟩
/-- one of a list -/
theorem of2 (h : At2 S n m) (hr : RngO B o) {xs : List D} (hB : B < 2 ^ 60) (h0 : xs ≠ []) (h1 : xs.length < 2 ^ 30) (hs : shs xs = true) :
    ∃ x o', callF FF (k + 2) 40 [.ref n, .lst xs] (st2 S n m o l) = .ok x (st2 S n m o' l) ∧ x ∈ xs ∧ RngO (B + 1) o' := by
  have hp : 0 < xs.length := List.length_pos_iff.mpr h0
  obtain ⟨d, o', e, r1, r2, r3⟩ := draw2 (k := k) (l := l) h hr (limit := xs.length) hB (by omega) (by omega)
  obtain ⟨j, rfl⟩ := Int.eq_ofNat_of_zero_le r1
  have hj : j < xs.length := by omega
  refine ⟨xs[j], o', ?_, List.getElem_mem hj, r3⟩
  rw [call_eq F_40 rfl]
  simp [f40, e, idxF_l (List.getElem?_eq_getElem hj)]
  have hb : sh xs[j] = true := shs_iff.mp hs _ (List.getElem_mem hj)
  rw [finR_rt (sh_below hb), st2_len, take_st2]
end
/-! the first draws alone (no second cell) -/
section
variable {S : Store} {n B k : Nat}
theorem set_take {o : Ob} : (S.set n o).take S.length = S.set n o := by
  rw [← List.length_set (i := n) (a := o) (as := S), List.take_length]
theorem of1 (h : Rng n B S) {xs : List D} (hB : B < 2 ^ 60) (h0 : xs ≠ []) (h1 : xs.length < 2 ^ 30) (hs : shs xs = true) :
    ∃ x o', callF FF (k + 2) 40 [.ref n, .lst xs] S = .ok x (S.set n o') ∧ x ∈ xs ∧ RngO (B + 1) o' := by
  have hp : 0 < xs.length := List.length_pos_iff.mpr h0
  obtain ⟨d, o', e, r1, r2, r3⟩ := draw_ok (k := k) h (limit := xs.length) hB (by omega) (by omega)
  obtain ⟨j, rfl⟩ := Int.eq_ofNat_of_zero_le r1
  have hj : j < xs.length := by omega
  refine ⟨xs[j], o', ?_, List.getElem_mem hj, r3⟩
  rw [call_eq F_40 rfl]
  simp [f40, e, idxF_l (List.getElem?_eq_getElem hj)]
  have hb : sh xs[j] = true := shs_iff.mp hs _ (List.getElem_mem hj)
  rw [finR_rt (sh_below hb), set_take]
end
/-! what is left -/
def kMoves : D := .str [109, 111, 118, 101, 115]
def kSteps : D := .str [115, 116, 101, 112, 115]
def kThings : D := .str [116, 104, 105, 110, 103, 115]
def ldL (mv sp th : Int) : List (D × D) := [(kMoves, .int mv), (kSteps, .int sp), (kThings, .int th)]
def ld (mv sp th : Int) : Ob := .dic (ldL mv sp th)
section
variable {S : Store} {n m B k : Nat} {o : Ob} {mv sp th : Int}
theorem ld_mv (h : At2 S n m) : idxF (.ref m) (.str [109, 111, 118, 101, 115]) (st2 S n m o (ld mv sp th)) = .ok (.int mv) (st2 S n m o (ld mv sp th)) := by
  rw [idxF_dic (show (st2 S n m o (ld mv sp th))[m]? = some (.dic (ldL mv sp th)) from st2_m h) rfl]; rfl
theorem ld_sp (h : At2 S n m) : idxF (.ref m) (.str [115, 116, 101, 112, 115]) (st2 S n m o (ld mv sp th)) = .ok (.int sp) (st2 S n m o (ld mv sp th)) := by
  rw [idxF_dic (show (st2 S n m o (ld mv sp th))[m]? = some (.dic (ldL mv sp th)) from st2_m h) rfl]; rfl
theorem ld_th (h : At2 S n m) : idxF (.ref m) (.str [116, 104, 105, 110, 103, 115]) (st2 S n m o (ld mv sp th)) = .ok (.int th) (st2 S n m o (ld mv sp th)) := by
  rw [idxF_dic (show (st2 S n m o (ld mv sp th))[m]? = some (.dic (ldL mv sp th)) from st2_m h) rfl]; rfl
theorem ld_setm (h : At2 S n m) {x : Int} : setF (.ref m) (.str [109, 111, 118, 101, 115]) (.int x) (st2 S n m o (ld mv sp th)) = .ok () (st2 S n m o (ld x sp th)) := by
  rw [setF_dic (show (st2 S n m o (ld mv sp th))[m]? = some (.dic (ldL mv sp th)) from st2_m h) rfl (show 3 < LINE by decide) rfl, st2_set_m]; rfl
theorem ld_sets (h : At2 S n m) {x : Int} : setF (.ref m) (.str [115, 116, 101, 112, 115]) (.int x) (st2 S n m o (ld mv sp th)) = .ok () (st2 S n m o (ld mv x th)) := by
  rw [setF_dic (show (st2 S n m o (ld mv sp th))[m]? = some (.dic (ldL mv sp th)) from st2_m h) rfl (show 3 < LINE by decide) rfl, st2_set_m]; rfl
theorem ld_sett (h : At2 S n m) {x : Int} : setF (.ref m) (.str [116, 104, 105, 110, 103, 115]) (.int x) (st2 S n m o (ld mv sp th)) = .ok () (st2 S n m o (ld mv sp x)) := by
  rw [setF_dic (show (st2 S n m o (ld mv sp th))[m]? = some (.dic (ldL mv sp th)) from st2_m h) rfl (show 3 < LINE by decide) rfl, st2_set_m]; rfl
theorem pow_six {S : Store} : opF .pow (.int 10) (.int 6) S = .ok (.int 1000000) S := rfl
/-- a span drawn -/
theorem span_ok (h : At2 S n m) (hr : RngO B o) (hB : B < 2 ^ 59) (hmv : 0 ≤ mv) :
    ∃ lo hi o' mv', callF FF (k + 3) 43 [.ref n, .ref m] (st2 S n m o (ld mv sp th)) = .ok (.tup [.int lo, .int hi]) (st2 S n m o' (ld mv' sp th)) ∧ RngO (B + 6) o' ∧ 0 ≤ lo ∧ hi ≤ 999990 ∧
      ((lo = hi ∧ mv' = mv) ∨ (lo < hi ∧ mv' = mv - 1 ∧ 0 < mv)) := by
  obtain ⟨d1, o1, e1, r1, r2, g1⟩ := draw2 (k := k + 1) (l := ld mv sp th) h hr (limit := 50) (by omega) (by decide) (by decide)
  obtain ⟨d2, o2, e2, r3, r4, g2⟩ := draw2 (k := k + 1) (l := ld mv sp th) h g1 (limit := 999960) (by omega) (by decide) (by decide)
  obtain ⟨x, o3, e3, hx, g3⟩ := of2 (k := k) (l := ld mv sp th) h g2 (xs := [.int 0, .int 1, .int 2, .int 5, .int 10, .int d1, .int d2]) (by omega) (by simp) (show 7 < 2 ^ 30 by decide) (by simp [shs, sh]; omega)
  obtain ⟨lo, rfl, hlo, hlo2⟩ : ∃ lo, x = .int lo ∧ 0 ≤ lo ∧ lo < 999960 := by
    simp at hx
    rcases hx with rfl | rfl | rfl | rfl | rfl | rfl | rfl
    all_goals exact ⟨_, rfl, by omega, by omega⟩
  rw [call_eq F_43 rfl]
  by_cases hz : mv = 0
  · subst hz
    refine ⟨lo, lo, o3, 0, ?_, ?_, hlo, by omega, .inl ⟨rfl, rfl⟩⟩
    · simp [f43, e1, e2, pow_six, e3, ld_mv h]
      rw [finR_rt rfl, st2_len, take_st2]
    · obtain ⟨a, b, c, q⟩ := g3
      exact ⟨a, b, c, q.1, q.2.1, q.2.2.1, q.2.2.2.1, by have := q.2.2.2.2; omega⟩
  · obtain ⟨d4, o4, e4, r5, r6, g4⟩ := draw2 (k := k + 1) (l := ld mv sp th) h g3 (limit := 2) (by omega) (by decide) (by decide)
    by_cases h4 : d4 = 0
    · refine ⟨lo, lo, o4, mv, ?_, ?_, hlo, by omega, .inl ⟨rfl, rfl⟩⟩
      · simp [f43, e1, e2, pow_six, e3, ld_mv h, hz, e4, h4]
        rw [finR_rt rfl, st2_len, take_st2]
      · obtain ⟨a, b, c, q⟩ := g4
        exact ⟨a, b, c, q.1, q.2.1, q.2.2.1, q.2.2.2.1, by have := q.2.2.2.2; omega⟩
    · obtain ⟨d5, o5, e5, r7, r8, g5⟩ := draw2 (k := k + 1) (l := ld (mv - 1) sp th) h g4 (limit := 30) (by omega) (by decide) (by decide)
      obtain ⟨y, o6, e6, hy, g6⟩ := of2 (k := k) (l := ld (mv - 1) sp th) h g5 (xs := [.int 0, .int 1, .int d5]) (by omega) (by simp) (show 3 < 2 ^ 30 by decide) (by simp [shs, sh]; omega)
      obtain ⟨z, rfl, hz1, hz2⟩ : ∃ z, y = .int z ∧ 0 ≤ z ∧ z < 30 := by
        simp at hy
        rcases hy with rfl | rfl | rfl
        all_goals exact ⟨_, rfl, by omega, by omega⟩
      refine ⟨lo, lo + 1 + z, o6, mv - 1, ?_, ?_, hlo, by omega, .inr ⟨by omega, rfl, by omega⟩⟩
      · simp [f43, e1, e2, pow_six, e3, ld_mv h, hz, e4, h4, ld_setm h, e5, e6]
        rw [finR_rt rfl, st2_len, take_st2]
      · obtain ⟨a, b, c, q⟩ := g6
        exact ⟨a, b, c, q.1, q.2.1, q.2.2.1, q.2.2.2.1, by have := q.2.2.2.2; omega⟩
end
end Pf

set_option linter.all false
set_option Elab.async false
set_option maxRecDepth 100000
set_option maxHeartbeats 1000000
set_option autoImplicit false
/-! PfA4: goods as trees -/
namespace Pf
inductive Th where
  | raw (here : Bool) (lo hi : Int)
  | made (here : Bool) (lo hi share : Int) (whole own : Bool) (ps : List Th)
def sHere : List Nat := [104, 101, 114, 101]
def sAway : List Nat := [97, 119, 97, 121]
def sWhole : List Nat := [119, 104, 111, 108, 101]
def sOwn : List Nat := [111, 119, 110]
def sNone : List Nat := [110, 111, 110, 101]
def sRaw : List Nat := [114, 97, 119]
def sMade : List Nat := [109, 97, 100, 101]
def landD (b : Bool) : D := .str (if b then sHere else sAway)
def upD (b : Bool) : D := .str (if b then sWhole else sOwn)
def dnD (b : Bool) : D := .str (if b then sOwn else sNone)
def termD (share : Int) (whole own : Bool) : D := .tup [.int share, upD whole, dnD own]
mutual
def Th.d : Th → D
  | .raw h lo hi => .tup [.str sRaw, landD h, .int lo, .int hi]
  | .made h lo hi s w o ps => .tup [.str sMade, landD h, .int lo, .int hi, termD s w o, .tup (Th.ds ps)]
def Th.ds : List Th → List D
  | [] => []
  | t :: ts => t.d :: Th.ds ts
end
mutual
/-- how many things, how many made, how many that move -/
def Th.size : Th → Nat
  | .raw _ _ _ => 1
  | .made _ _ _ _ _ _ ps => Th.sizes ps + 1
def Th.sizes : List Th → Nat
  | [] => 0
  | t :: ts => t.size + Th.sizes ts
end
mutual
def Th.mades : Th → Nat
  | .raw _ _ _ => 0
  | .made _ _ _ _ _ _ ps => Th.madess ps + 1
def Th.madess : List Th → Nat
  | [] => 0
  | t :: ts => t.mades + Th.madess ts
end
def mvn (lo hi : Int) : Nat := if lo < hi then 1 else 0
mutual
def Th.moves : Th → Nat
  | .raw _ lo hi => mvn lo hi
  | .made _ lo hi _ _ _ ps => mvn lo hi + Th.movess ps
def Th.movess : List Th → Nat
  | [] => 0
  | t :: ts => t.moves + Th.movess ts
end
mutual
/-- well formed -/
def Th.ok : Th → Prop
  | .raw _ lo hi => 0 ≤ lo ∧ lo ≤ hi ∧ hi ≤ 1000000
  | .made _ lo hi s _ _ ps => (0 ≤ lo ∧ lo ≤ hi ∧ hi ≤ 1000000) ∧ (0 ≤ s ∧ s ≤ 100) ∧ (1 ≤ ps.length ∧ ps.length ≤ 4) ∧ Th.oks ps
def Th.oks : List Th → Prop
  | [] => True
  | t :: ts => t.ok ∧ Th.oks ts
end
theorem Th.ds_map : ∀ ts : List Th, Th.ds ts = ts.map Th.d
  | [] => rfl
  | t :: ts => by rw [Th.ds, Th.ds_map ts]; rfl
theorem Th.ds_append (a b : List Th) : Th.ds (a ++ b) = Th.ds a ++ Th.ds b := by simp [Th.ds_map]
theorem Th.sizes_append : ∀ (a b : List Th), Th.sizes (a ++ b) = Th.sizes a + Th.sizes b
  | [], b => by simp [Th.sizes]
  | t :: a, b => by rw [List.cons_append, Th.sizes, Th.sizes, Th.sizes_append a b]; omega
theorem Th.madess_append : ∀ (a b : List Th), Th.madess (a ++ b) = Th.madess a + Th.madess b
  | [], b => by simp [Th.madess]
  | t :: a, b => by rw [List.cons_append, Th.madess, Th.madess, Th.madess_append a b]; omega
theorem Th.movess_append : ∀ (a b : List Th), Th.movess (a ++ b) = Th.movess a + Th.movess b
  | [], b => by simp [Th.movess]
  | t :: a, b => by rw [List.cons_append, Th.movess, Th.movess, Th.movess_append a b]; omega
theorem Th.oks_iff : ∀ {ts : List Th}, Th.oks ts ↔ ∀ t ∈ ts, t.ok
  | [] => by simp [Th.oks]
  | t :: ts => by simp [Th.oks, Th.oks_iff (ts := ts)]
theorem sh_int {i : Int} (h0 : 0 ≤ i) (h1 : i ≤ 1000000) : sh (.int i) = true := decide_eq_true (by omega)
theorem sh_land {b : Bool} : sh (landD b) = true := by cases b <;> decide
theorem sh_up {b : Bool} : sh (upD b) = true := by cases b <;> decide
theorem sh_dn {b : Bool} : sh (dnD b) = true := by cases b <;> decide
mutual
theorem Th.sh_d : ∀ {t : Th}, t.ok → sh t.d = true
  | .raw h lo hi, k => by
    obtain ⟨k1, k2, k3⟩ := (show 0 ≤ lo ∧ lo ≤ hi ∧ hi ≤ 1000000 by simpa only [Th.ok] using k)
    rw [Th.d]
    show (sh (.str sRaw) && (sh (landD h) && (sh (.int lo) && (sh (.int hi) && true)))) = true
    rw [sh_land, sh_int k1 (by omega), sh_int (by omega) k3] <;> rfl
  | .made h lo hi s w o ps, k => by
    obtain ⟨⟨k1, k2, k3⟩, ⟨k4, k5⟩, _, k6⟩ := (show (0 ≤ lo ∧ lo ≤ hi ∧ hi ≤ 1000000) ∧ (0 ≤ s ∧ s ≤ 100) ∧ (1 ≤ ps.length ∧ ps.length ≤ 4) ∧ Th.oks ps by simpa only [Th.ok] using k)
    have k7 := Th.shs_ds k6
    rw [Th.d]
    show (sh (.str sMade) && (sh (landD h) && (sh (.int lo) && (sh (.int hi) && ((sh (.int s) && (sh (upD w) && (sh (dnD o) && true))) && (shs (Th.ds ps) && true)))))) = true
    rw [sh_land, sh_int k1 (by omega), sh_int (by omega) k3, sh_int k4 (by omega), sh_up, sh_dn, k7] <;> rfl
theorem Th.shs_ds : ∀ {ts : List Th}, Th.oks ts → shs (Th.ds ts) = true
  | [], _ => rfl
  | t :: ts, k => by
    obtain ⟨k1, k2⟩ := (show t.ok ∧ Th.oks ts by simpa only [Th.oks] using k)
    rw [Th.ds]
    show (sh t.d && shs (Th.ds ts)) = true
    rw [Th.sh_d k1, Th.shs_ds k2] <;> rfl
end
/-! a thing drawn -/
section
variable {S : Store} {n m B k : Nat} {o : Ob} {mv sp th : Int}
theorem RngO.le {B C : Nat} {o : Ob} (h : RngO B o) (hc : B ≤ C) : RngO C o := by
  obtain ⟨a, b, c, q⟩ := h
  exact ⟨a, b, c, q.1, q.2.1, q.2.2.1, q.2.2.2.1, by have := q.2.2.2.2; omega⟩
theorem term_ok {l : Ob} (h : At2 S n m) (hr : RngO B o) (hB : B < 2 ^ 59) :
    ∃ s w ow o', callF FF (k + 3) 42 [.ref n] (st2 S n m o l) = .ok (termD s w ow) (st2 S n m o' l) ∧ RngO (B + 4) o' ∧ 0 ≤ s ∧ s ≤ 100 := by
  obtain ⟨d1, o1, e1, r1, r2, g1⟩ := draw2 (k := k + 1) (l := l) h hr (limit := 101) (by omega) (by decide) (by decide)
  obtain ⟨x, o2, e2, hx, g2⟩ := of2 (k := k) (l := l) h g1 (xs := [.int 0, .int 30, .int 50, .int 60, .int 100, .int d1]) (by omega) (by simp) (show 6 < 2 ^ 30 by decide) (by simp [shs, sh]; omega)
  obtain ⟨s, rfl, hs1, hs2⟩ : ∃ s, x = .int s ∧ 0 ≤ s ∧ s ≤ 100 := by
    simp at hx
    rcases hx with rfl | rfl | rfl | rfl | rfl | rfl
    all_goals exact ⟨_, rfl, by omega, by omega⟩
  obtain ⟨y, o3, e3, hy, g3⟩ := of2 (k := k) (l := l) h g2 (xs := [.str sWhole, .str sWhole, .str sOwn]) (by omega) (by simp) (show 3 < 2 ^ 30 by decide) rfl
  obtain ⟨w, rfl⟩ : ∃ w, y = upD w := by
    simp at hy
    rcases hy with rfl | rfl
    · exact ⟨true, rfl⟩
    · exact ⟨false, rfl⟩
  obtain ⟨z, o4, e4, hz, g4⟩ := of2 (k := k) (l := l) h g3 (xs := [.str sOwn, .str sOwn, .str sNone]) (by omega) (by simp) (show 3 < 2 ^ 30 by decide) rfl
  obtain ⟨ow, rfl⟩ : ∃ ow, z = dnD ow := by
    simp at hz
    rcases hz with rfl | rfl
    · exact ⟨true, rfl⟩
    · exact ⟨false, rfl⟩
  refine ⟨s, w, ow, o4, ?_, g4.le (by omega), hs1, hs2⟩
  rw [call_eq F_42 rfl]
  simp only [sWhole, sOwn, sNone] at e3 e4
  simp [f42, e1, e2, e3, e4]
  rw [finR_rt (by unfold upD dnD; rfl), st2_len, take_st2]
  rfl
end
end Pf

set_option linter.all false
set_option Elab.async false
set_option maxRecDepth 100000
set_option maxHeartbeats 1000000
set_option autoImplicit false
/-! PfA5: a thing drawn -/
namespace Pf
theorem st2_push {S : Store} {n m : Nat} {o l x : Ob} (h : At2 S n m) : st2 S n m o l ++ [x] = st2 (S ++ [x]) n m o l := by
  unfold st2
  rw [List.set_append_left _ _ h.hn, List.set_append_left _ _ (by rw [List.length_set]; exact h.hm)]
theorem At2.push {S : Store} {n m : Nat} {x : Ob} (h : At2 S n m) : At2 (S ++ [x]) n m := ⟨by simp; have := h.hn; omega, by simp; have := h.hm; omega, h.ne⟩
theorem bodyF_name {cl : Nat → List D → M D} {i : Nat} {b : St} {d : D} {ρ : Ev} {S : Store} (h : i < ρ.length) : bodyF cl (.name i) b d ρ S = exec cl b (ρ.set i (some d)) S := by
  unfold bodyF
  rw [bindP, if_pos h]
theorem mth_append {r : Nat} {x : D} {l : List D} {S : Store} (h : S[r]? = some (.lst l)) (hl : l.length < LINE) (hb : below r x = true) : mthF .append (.ref r) [x] S = .ok .non (S.set r (.lst (l ++ [x]))) := by
  show (match S[r]? with
    | some (.lst l) => if l.length < LINE ∧ below r x = true then R.ok D.non (S.set r (.lst (l ++ [x]))) else .no
    | _ => .no) = _
  rw [h]
  simp only
  rw [if_pos ⟨hl, hb⟩]
theorem recv_app {r : Nat} {l : List D} {S : Store} {m : Mt} (h : S[r]? = some (.lst l)) (hm : ∀ x, recvOk m x S = (getL S x).isSome := by intro x; rfl) : recvOk m (.ref r) S = true := by
  rw [hm]
  show (match S[r]? with | some (Ob.lst l) => some l | _ => none).isSome = true
  rw [h] <;> rfl
/-- what a thing's drawing leaves -/
structure Drawn (t : Th) (mv sp th mv' sp' th' : Int) : Prop where
  ok : t.ok
  mv : (t.moves : Int) + mv' = mv
  sp : (t.mades : Int) + sp' = sp
  th : (t.size : Int) + th' = th + 1
  mv0 : 0 ≤ mv'
  sp0 : 0 ≤ sp'
  th0 : 0 ≤ th'
section
variable {S : Store} {n m B k : Nat} {o : Ob} {mv sp th : Int}
abbrev body44 : St := (.seq (.ex (.mth .append (.var 7) (.cons (.call 44 (.cons (.var 0) (.cons (.var 1) (.cons (.con (.bl false)) .nil)))) .nil))) .skip)
theorem thing_loop {cl : Nat → List D → M D} {C s : Nat} {v2 v3 v4 v5 v6 : Option D}
    (H : ∀ (S : Store) (B : Nat) (o : Ob) (mv sp th : Int), At2 S n m → RngO B o → B + C < 2 ^ 58 → 0 ≤ mv → 0 ≤ sp → sp ≤ s → 0 ≤ th → ∃ t o' mv' sp' th', cl 44 [.ref n, .ref m, .bl false] (st2 S n m o (ld mv sp th)) = .ok t.d (st2 S n m o' (ld mv' sp' th')) ∧ RngO (B + C) o' ∧ Drawn t mv sp th mv' sp' th') :
    ∀ (items : List D) (w8 : Option D) (B : Nat) (o : Ob) (mv sp th : Int) (rows : List Th), At2 S n m → RngO B o → B + items.length * C < 2 ^ 58 → 0 ≤ mv → 0 ≤ sp → sp ≤ s → 0 ≤ th → rows.length + items.length ≤ 100 →
      ∃ w' ts o' mv' sp' th', forF (bodyF cl (.name 8) body44) items [some (.ref n), some (.ref m), v2, v3, v4, v5, v6, some (.ref S.length), w8] (st2 S n m o (ld mv sp th) ++ [.lst (Th.ds rows)]) =
        .ok (.nx [some (.ref n), some (.ref m), v2, v3, v4, v5, v6, some (.ref S.length), w']) (st2 S n m o' (ld mv' sp' th') ++ [.lst (Th.ds (rows ++ ts))]) ∧ RngO (B + items.length * C) o' ∧ ts.length = items.length ∧ Th.oks ts ∧
        (Th.movess ts : Int) + mv' = mv ∧ (Th.madess ts : Int) + sp' = sp ∧ (Th.sizes ts : Int) + th' = th + items.length ∧ 0 ≤ mv' ∧ 0 ≤ sp' ∧ 0 ≤ th' := by
  intro items
  induction items with
  | nil =>
    intro w8 B o mv sp th rows h hr hB h1 h2 h3 h4 hl
    refine ⟨w8, [], o, mv, sp, th, ?_, by simpa using hr, rfl, trivial, ?_, ?_, ?_, h1, h2, h4⟩
    · simp
    · simp [Th.movess]
    · simp [Th.madess]
    · simp [Th.sizes]
  | cons x items ih =>
    intro w8 B o mv sp th rows h hr hB h1 h2 h3 h4 hl
    simp only [List.length_cons] at hB hl
    have hc : B + C + items.length * C = B + (items.length + 1) * C := by rw [Nat.add_mul]; omega
    obtain ⟨t, o1, mv1, sp1, th1, e1, g1, dr⟩ := H (S ++ [.lst (Th.ds rows)]) B o mv sp th h.push hr (by omega) h1 h2 h3 h4
    have hrow : (st2 (S ++ [Ob.lst (Th.ds rows)]) n m o1 (ld mv1 sp1 th1))[S.length]? = some (.lst (Th.ds rows)) := by
      rw [← st2_push h]
      rw [List.getElem?_append_right (by rw [st2_len]; exact Nat.le_refl _), st2_len]
      simp
    have hrow0 : (st2 (S ++ [Ob.lst (Th.ds rows)]) n m o (ld mv sp th))[S.length]? = some (.lst (Th.ds rows)) := by
      rw [← st2_push h]
      rw [List.getElem?_append_right (by rw [st2_len]; exact Nat.le_refl _), st2_len]
      simp
    have hset : (st2 (S ++ [Ob.lst (Th.ds rows)]) n m o1 (ld mv1 sp1 th1)).set S.length (.lst (Th.ds rows ++ [t.d])) = st2 S n m o1 (ld mv1 sp1 th1) ++ [.lst (Th.ds (rows ++ [t]))] := by
      rw [← st2_push h, List.set_append_right _ _ (by rw [st2_len]; exact Nat.le_refl _), st2_len]
      simp [Th.ds_append, Th.ds]
    obtain ⟨w', ts, o2, mv2, sp2, th2, e2, g2, q1, q2, q3, q4, q5, q6, q7, q8⟩ := ih (some x) (B + C) o1 mv1 sp1 th1 (rows ++ [t]) h g1 (by omega) dr.mv0 dr.sp0 (by have := dr.sp; omega) dr.th0 (by simp; omega)
    refine ⟨w', t :: ts, o2, mv2, sp2, th2, ?_, ?_, by simp [q1], ⟨dr.ok, q2⟩, ?_, ?_, ?_, q6, q7, q8⟩
    · rw [forF_cons, bodyF_name (by simp), st2_push h]
      have happ := mth_append (x := t.d) hrow (by rw [Th.ds_map, List.length_map]; unfold LINE; omega) (sh_below (Th.sh_d dr.ok))
      simp [body44, e1, recv_app (m := .append) hrow0, happ, hset]
      rw [List.append_assoc] at e2
      exact e2
    · rw [List.length_cons, ← hc]; exact g2
    · rw [Th.movess]; have := dr.mv; omega
    · rw [Th.madess]; have := dr.sp; omega
    · rw [Th.sizes, List.length_cons]; have := dr.th; omega
theorem biF_tupR {r : Nat} {l : List D} {S : Store} (h : S[r]? = some (.lst l)) : biF .tuple [.ref r] S = .ok (.tup l) S := by
  show (match (match S[r]? with | some (Ob.lst l) => some l | _ => none) with | some l => R.ok (D.tup l) S | none => .no) = _
  rw [h]
theorem take_push {l x : Ob} (h : At2 S n m) : (st2 (S ++ [x]) n m o l).take S.length = st2 S n m o l := by
  rw [← st2_push h, ← st2_len (S := S) (n := n) (m := m) (o := o) (l := l), List.take_left]
theorem row_at {l x : Ob} (h : At2 S n m) : (st2 (S ++ [x]) n m o l)[S.length]? = some x := by
  rw [← st2_push h, List.getElem?_append_right (by rw [st2_len]; exact Nat.le_refl _), st2_len]
  simp
theorem asc_len (lo : Int) : ∀ n, (ascend lo n).length = n := by
  intro n
  induction n generalizing lo with
  | zero => rfl
  | succ n ih => simp [ascend, ih]
theorem thing_ok : ∀ (s : Nat) (must : Bool) (k : Nat) (S : Store) (B : Nat) (o : Ob) (mv sp th : Int), At2 S n m → RngO B o → B + 20 * 4 ^ s < 2 ^ 58 → 0 ≤ mv → 0 ≤ sp → sp ≤ s → 0 ≤ th → (must = true → 1 ≤ sp ∧ 1 ≤ th) →
    ∃ t o' mv' sp' th', callF FF (k + s + 4) 44 [.ref n, .ref m, .bl must] (st2 S n m o (ld mv sp th)) = .ok t.d (st2 S n m o' (ld mv' sp' th')) ∧ RngO (B + 20 * 4 ^ s) o' ∧ Drawn t mv sp th mv' sp' th' ∧ (must = true → ∃ h lo hi sh w ow ps, t = .made h lo hi sh w ow ps) := by
  intro s
  induction s with
  | zero =>
    intro must k S B o mv sp th h hr hB h1 h2 h3 h4 hmust
    have hsp : sp = 0 := by omega
    subst hsp
    cases must with
    | true => exact absurd (hmust rfl).1 (by omega)
    | false =>
      obtain ⟨lo, hi, o1, mv1, e1, g1, r1, r2, hm1⟩ := span_ok (k := k) (sp := 0) (th := th) h hr (by omega) h1
      obtain ⟨y, o2, e2, hy, g2⟩ := of2 (k := k + 1) (l := ld mv1 0 th) h g1 (xs := [.str sHere, .str sAway]) (by omega) (by simp) (show 2 < 2 ^ 30 by decide) rfl
      obtain ⟨hb, rfl⟩ : ∃ w, y = landD w := by
        simp at hy
        rcases hy with rfl | rfl
        · exact ⟨true, rfl⟩
        · exact ⟨false, rfl⟩
      refine ⟨.raw hb lo hi, o2, mv1, 0, th, ?_, g2.le (by omega), ⟨by simp only [Th.ok]; omega, ?_, by simp [Th.mades], by simp [Th.size]; omega, by omega, by omega, h4⟩, fun e => by cases e⟩
      · rw [call_eq F_44 rfl]
        simp only [sHere, sAway] at e2
        simp [f44, e1, e2, ld_sp h]
        rw [finR_rt (by unfold landD; rfl), st2_len, take_st2]
        rfl
      · simp only [Th.moves, mvn]; split <;> omega
  | succ s ih =>
    intro must k S B o mv sp th h hr hB h1 h2 h3 h4 hmust
    have h4s : 4 ^ (s + 1) = 4 * 4 ^ s := by rw [Nat.pow_succ]; omega
    have hpos : 1 ≤ 4 ^ s := Nat.one_le_pow _ _ (by decide)
    rw [h4s] at hB
    obtain ⟨lo, hi, o1, mv1, e1, g1, r1, r2, hm1⟩ := span_ok (k := k + s + 1) (sp := sp) (th := th) h hr (by omega) h1
    obtain ⟨y, o2, e2, hy, g2⟩ := of2 (k := k + s + 2) (l := ld mv1 sp th) h g1 (xs := [.str sHere, .str sAway]) (by omega) (by simp) (show 2 < 2 ^ 30 by decide) rfl
    obtain ⟨hb, rfl⟩ : ∃ w, y = landD w := by
      simp at hy
      rcases hy with rfl | rfl
      · exact ⟨true, rfl⟩
      · exact ⟨false, rfl⟩
    simp only [sHere, sAway] at e2
    -- made: from any state of the draws
    have made : ∀ o3, RngO (B + 8) o3 → 1 ≤ sp → 1 ≤ th → ∃ t o' mv' sp' th', (∃ h lo hi sh w ow ps, t = Th.made h lo hi sh w ow ps) ∧ RngO (B + 20 * (4 * 4 ^ s)) o' ∧ Drawn t mv sp th mv' sp' th' ∧
        finR true S.length (exec (callF FF (k + s + 4)) (.seq (.asg (.sub (.var 1) (.con (.str [115, 116, 101, 112, 115]))) (.bin .sub (.idx (.var 1) (.con (.str [115, 116, 101, 112, 115]))) (.con (.int 1))))
    (.seq (.asg (.name 6) (.bin .add (.con (.int 1)) (.call 39 (.cons (.var 0) (.cons (.bi .min2 (.cons (.con (.int 3)) (.cons (.idx (.var 1) (.con (.str [116, 104, 105, 110, 103, 115]))) .nil))) .nil)))))
    (.seq (.asg (.tup [(.sub (.var 1) (.con (.str [116, 104, 105, 110, 103, 115]))), (.name 7)]) (.tup (.cons (.bin .sub (.idx (.var 1) (.con (.str [116, 104, 105, 110, 103, 115]))) (.var 6)) (.cons (.lst true .nil) .nil))))
    (.seq (.for (.name 8) (.rng1 (.var 6))
    (.seq (.ex (.mth .append (.var 7) (.cons (.call 44 (.cons (.var 0) (.cons (.var 1) (.cons (.con (.bl false)) .nil)))) .nil)))
    .skip))
    (.seq (.ret (.tup (.cons (.con (.str [109, 97, 100, 101])) (.cons (.var 5) (.cons (.var 3) (.cons (.var 4) (.cons (.call 42 (.cons (.var 0) .nil)) (.cons (.bi .tuple (.cons (.var 7) .nil)) .nil))))))))
    .skip))))) [some (.ref n), some (.ref m), some (.bl must), some (.int lo), some (.int hi), some (landD hb), none, none, none] (st2 S n m o3 (ld mv1 sp th))) = .ok t.d (st2 S n m o' (ld mv' sp' th')) := by
      intro o3 g3 hsp hth
      obtain ⟨d4, o4, e4, q1, q2, g4⟩ := draw2 (k := k + s + 3) (l := ld mv1 (sp - 1) th) h g3 (limit := if th < 3 then th else 3) (by omega) (by split <;> omega) (by split <;> omega)
      have hd4 : d4 < th ∧ d4 < 3 := by split at q2 <;> omega
      obtain ⟨w', ts, o5, mv5, sp5, th5, e5, g5, p1, p2, p3, p4, p5, p6, p7, p8⟩ := thing_loop (S := S) (n := n) (m := m) (cl := callF FF (k + s + 4)) (C := 20 * 4 ^ s) (s := s) (v2 := some (.bl must)) (v3 := some (.int lo)) (v4 := some (.int hi)) (v5 := some (landD hb)) (v6 := some (.int (1 + d4)))
        (fun S B o mv sp th a1 a2 a3 a4 a5 a6 a7 => by
          obtain ⟨t, o', mv', sp', th', z1, z2, z3, _⟩ := ih false k S B o mv sp th a1 a2 a3 a4 a5 a6 a7 (fun e => by cases e)
          exact ⟨t, o', mv', sp', th', z1, z2, z3⟩)
        (ascend 0 (1 + d4).toNat) none (B + 9) o4 mv1 (sp - 1) (th - (1 + d4)) [] h g4 (by
          rw [asc_len]
          have : (1 + d4).toNat * (20 * 4 ^ s) ≤ 3 * (20 * 4 ^ s) := Nat.mul_le_mul_right _ (by omega)
          omega) (by omega) (by omega) (by omega) (by omega) (by rw [asc_len]; simp; omega)
      rw [asc_len] at g5 p1 p5
      have hlen : (1 + d4).toNat * (20 * 4 ^ s) ≤ 3 * (20 * 4 ^ s) := Nat.mul_le_mul_right _ (by omega)
      obtain ⟨sh, w, ow, o6, e6, g6, t1, t2⟩ := term_ok (k := k + s + 1) (l := ld mv5 sp5 th5) (S := S ++ [.lst (Th.ds ts)]) h.push g5 (by omega)
      simp only [List.nil_append, Th.ds, st2_push h] at e5
      have hsm : small (1 + d4) = true := by
        unfold small
        rw [decide_eq_true (show -(2 ^ 24) ≤ 1 + d4 by omega), decide_eq_true (show 1 + d4 ≤ 2 ^ 24 by omega)] <;> rfl
      refine ⟨.made hb lo hi sh w ow ts, o6, mv5, sp5, th5, ⟨_, _, _, _, _, _, _, rfl⟩, g6.le (by omega), ⟨?_, ?_, ?_, ?_, p6, p7, p8⟩, ?_⟩
      · simp only [Th.ok]
        refine ⟨by omega, by omega, by omega, p2⟩
      · simp only [Th.moves, mvn]; split <;> omega
      · simp only [Th.mades]; omega
      · simp only [Th.size]; omega
      · have hrow := row_at (o := o6) (l := ld mv5 sp5 th5) (x := .lst (Th.ds ts)) h
        simp [ld_sp h, ld_sets h, ld_th h, e4, st2_len, st2_push h, ld_sett h.push, hsm, e5, e6, biF_tupR hrow]
        rw [finR_rt, take_push h]
        · rfl
        · unfold termD upD dnD landD
          have hbl := shs_below (b := S.length) (Th.shs_ds p2)
          show (true && (true && (true && (true && ((true && (true && (true && true))) && (belows S.length (Th.ds ts) && true)))))) = true
          rw [hbl] <;> rfl
    rw [call_eq F_44 rfl, show k + (s + 1) + 3 = k + s + 4 by omega]
    cases must with
    | true =>
      obtain ⟨m1, m2⟩ := hmust rfl
      obtain ⟨t, o', mv', sp', th', z1, z2, z3, z4⟩ := made o2 (g2.le (by omega)) m1 m2
      refine ⟨t, o', mv', sp', th', ?_, by rw [h4s]; exact z2, z3, fun _ => z1⟩
      rw [← z4, st2_len]
      simp [f44, e1, e2]
    | false =>
      have raw : ∀ o3, RngO (B + 8) o3 → ∃ t o' mv' sp' th', RngO (B + 20 * (4 * 4 ^ s)) o' ∧ Drawn t mv sp th mv' sp' th' ∧ R.ok (D.tup [.str sRaw, landD hb, .int lo, .int hi]) (st2 S n m o3 (ld mv1 sp th)) = .ok t.d (st2 S n m o' (ld mv' sp' th')) := by
        intro o3 g3
        refine ⟨.raw hb lo hi, o3, mv1, sp, th, g3.le (by omega), ⟨by simp only [Th.ok]; omega, ?_, by simp [Th.mades], by simp [Th.size]; omega, by omega, by omega, h4⟩, rfl⟩
        simp only [Th.moves, mvn]; split <;> omega
      by_cases c1 : sp = 0
      · subst c1
        obtain ⟨t, o', mv', sp', th', z2, z3, z4⟩ := raw o2 (g2.le (by omega))
        refine ⟨t, o', mv', sp', th', ?_, by rw [h4s]; exact z2, z3, fun e => by cases e⟩
        rw [← z4]
        simp [f44, e1, e2, ld_sp h]
        rw [finR_rt (by unfold landD; rfl), st2_len, take_st2]
        rfl
      · by_cases c2 : th = 0
        · subst c2
          obtain ⟨t, o', mv', sp', th', z2, z3, z4⟩ := raw o2 (g2.le (by omega))
          refine ⟨t, o', mv', sp', th', ?_, by rw [h4s]; exact z2, z3, fun e => by cases e⟩
          rw [← z4]
          simp [f44, e1, e2, ld_sp h, c1, ld_th h]
          rw [finR_rt (by unfold landD; rfl), st2_len, take_st2]
          rfl
        · obtain ⟨d3, o3, e3, q1, q2, g3⟩ := draw2 (k := k + s + 3) (l := ld mv1 sp th) h g2 (limit := 3) (by omega) (by decide) (by decide)
          by_cases c3 : 0 < d3
          · obtain ⟨t, o', mv', sp', th', z2, z3, z4⟩ := raw o3 (g3.le (by omega))
            refine ⟨t, o', mv', sp', th', ?_, by rw [h4s]; exact z2, z3, fun e => by cases e⟩
            rw [← z4]
            simp [f44, e1, e2, ld_sp h, c1, ld_th h, c2, e3, c3]
            rw [finR_rt (by unfold landD; rfl), st2_len, take_st2]
            rfl
          · obtain ⟨t, o', mv', sp', th', z1, z2, z3, z4⟩ := made o3 (g3.le (by omega)) (by omega) (by omega)
            refine ⟨t, o', mv', sp', th', ?_, by rw [h4s]; exact z2, z3, fun e => by cases e⟩
            rw [← z4, st2_len]
            simp [f44, e1, e2, ld_sp h, c1, ld_th h, c2, e3, c3]
end
end Pf

set_option linter.all false
set_option Elab.async false
set_option maxRecDepth 100000
set_option maxHeartbeats 1000000
set_option autoImplicit false
/-! PfA6: a good drawn -/
namespace Pf
theorem addT {a b : List D} {S : Store} (h : a.length + b.length ≤ LINE) : opF .add (.tup a) (.tup b) S = .ok (.tup (a ++ b)) S := if_pos h
theorem addL {a b : List D} {S : Store} (h : a.length + b.length ≤ LINE) : opF .add (.lst a) (.lst b) S = .ok (.lst (a ++ b)) S := by
  show (match getL S (.lst a), getL S (.lst b) with
    | some xs, some ys => if xs.length + ys.length ≤ LINE then R.ok (D.lst (xs ++ ys)) S else .no
    | _, _ => .no) = _
  show (if a.length + b.length ≤ LINE then R.ok (D.lst (a ++ b)) S else .no) = _
  rw [if_pos h]
theorem sli_02 {a b c d e f : D} {S : Store} : sliF (.tup [a, b, c, d, e, f]) none (some 2) S = .ok (.tup [a, b]) S := rfl
theorem sli_4 {a b c d e f : D} {S : Store} : sliF (.tup [a, b, c, d, e, f]) (some 4) none S = .ok (.tup [e, f]) S := rfl
theorem add22 {a b c d : D} {S : Store} : opF .add (.tup [a, b]) (.tup [c, d]) S = .ok (.tup [a, b, c, d]) S := addT (show 4 ≤ LINE by decide)
theorem add42 {a b c d e f : D} {S : Store} : opF .add (.tup [a, b, c, d]) (.tup [e, f]) S = .ok (.tup [a, b, c, d, e, f]) S := addT (show 6 ≤ LINE by decide)
theorem dic_left {a b c : Int} {S : Store} : dicF [.str [109, 111, 118, 101, 115], .str [115, 116, 101, 112, 115], .str [116, 104, 105, 110, 103, 115]] [.int a, .int b, .int c] S = .ok (.ref S.length) (S ++ [ld a b c]) := rfl
/-- a good that the law draws -/
structure GoodT (t : Th) (mvg mkg : Int) : Prop where
  ok : t.ok
  mv : (t.moves : Int) ≤ mvg
  mkd : (t.mades : Int) ≤ mkg
  sz : t.size ≤ 10
  top : ∃ h lo hi sh w ow ps, t = .made h lo hi sh w ow ps ∧ 1 ≤ lo
section
variable {S : Store} {n B k : Nat}
theorem good_ok {mvg mkg : Int} (h : Rng n B S) (hB : B < 2 ^ 57) (h1 : 0 ≤ mvg) (h1' : mvg < 1000) (h2 : 1 ≤ mkg) (h3 : mkg ≤ 4) :
    ∃ t o', callF FF (k + 9) 45 [.ref n, .int mvg, .int mkg] S = .ok t.d (S.set n o') ∧ RngO (B + 6000) o' ∧ GoodT t mvg mkg := by
  obtain ⟨d1, o1, e1, r1, r2, g1⟩ := draw_ok (k := k + 7) h (limit := mvg + 1) (by omega) (by omega) (by omega)
  have hS : n < S.length := by obtain ⟨ob, hn, _⟩ := h; exact lt_of_get hn
  have hR : Rng n (B + 1) (S.set n o1) := ⟨o1, List.getElem?_set_self hS, g1⟩
  obtain ⟨d2, o2, e2, r3, r4, g2⟩ := draw_ok (k := k + 7) hR (limit := mkg) (by omega) (by omega) (by omega)
  rw [List.set_set] at e2
  have at2 : At2 (S ++ [ld d1 (1 + d2) 9]) n S.length := ⟨by simp; omega, by simp, by omega⟩
  have est : S.set n o2 ++ [ld d1 (1 + d2) 9] = st2 (S ++ [ld d1 (1 + d2) 9]) n S.length o2 (ld d1 (1 + d2) 9) := by
    unfold st2
    rw [List.set_append_left _ _ hS, List.set_append_right _ _ (by simp)]
    simp
  obtain ⟨t, o3, mv', sp', th', e3, g3, dr, hmade⟩ := thing_ok (n := n) (m := S.length) 4 true k (S ++ [ld d1 (1 + d2) 9]) (B + 1 + 1) o2 d1 (1 + d2) 9 at2 g2 (by omega) r1 (by omega) (by omega) (by omega) (fun _ => ⟨by omega, by omega⟩)
  obtain ⟨hh, lo, hi, sh, w, ow, ps, rfl⟩ := hmade rfl
  obtain ⟨⟨k1, k2, k3⟩, k4, k5, k6⟩ := (show (0 ≤ lo ∧ lo ≤ hi ∧ hi ≤ 1000000) ∧ (0 ≤ sh ∧ sh ≤ 100) ∧ (1 ≤ ps.length ∧ ps.length ≤ 4) ∧ Th.oks ps by simpa only [Th.ok] using dr.ok)
  have m1 := dr.mv
  have m2 := dr.sp
  have m3 := dr.th
  have m4 := dr.mv0
  have m5 := dr.sp0
  have m6 := dr.th0
  simp only [Th.moves, Th.mades, Th.size] at m1 m2 m3
  refine ⟨.made hh (if lo > 1 then lo else 1) (if hi > 1 then hi else 1) sh w ow ps, o3, ?_, g3.le (by omega), ⟨?_, ?_, ?_, ?_, ⟨_, _, _, _, _, _, _, rfl, by split <;> omega⟩⟩⟩
  · rw [call_eq F_45 rfl]
    rw [Th.d] at e3
    have etk : (st2 (S ++ [ld d1 (1 + d2) 9]) n S.length o3 (ld mv' sp' th')).take S.length = S.set n o3 := by
      unfold st2
      rw [List.set_append_left _ _ hS, List.set_append_right _ _ (by simp)]
      rw [← List.length_set (i := n) (a := o3) (as := S), List.take_left]
    simp only [Nat.add_assoc, Nat.reduceAdd] at e1 e2 e3
    simp [f45, e1, e2, dic_left, est, e3, sli_02, sli_4, add22, add42]
    rw [finR_rt, etk]
    · rw [Th.d]
    · unfold termD upD dnD landD
      have hbl := shs_below (b := S.length) (Th.shs_ds k6)
      show (true && (true && (true && (true && ((true && (true && (true && true))) && (belows S.length (Th.ds ps) && true)))))) = true
      rw [hbl] <;> rfl
  · simp only [Th.ok]
    exact ⟨⟨by split <;> omega, by split <;> split <;> omega, by split <;> omega⟩, k4, k5, k6⟩
  · simp only [Th.moves]
    have : mvn (if lo > 1 then lo else 1) (if hi > 1 then hi else 1) ≤ mvn lo hi := by
      unfold mvn
      by_cases a1 : lo > 1
      · by_cases a2 : hi > 1
        · rw [if_pos a1, if_pos a2]; exact Nat.le_refl _
        · omega
      · by_cases a2 : hi > 1
        · rw [if_neg a1, if_pos a2]
          by_cases a3 : lo < hi
          · rw [if_pos a3]; split <;> omega
          · omega
        · rw [if_neg a1, if_neg a2]; simp
    omega
  · simp only [Th.mades]; omega
  · simp only [Th.size]; omega
end
end Pf

set_option linter.all false
set_option Elab.async false
set_option maxRecDepth 100000
set_option maxHeartbeats 1000000
set_option autoImplicit false
/-! PfA7: the numbered rows of a good -/
namespace Pf
/-- the parts' numbers, the first being c -/
def Th.nums : List Th → Nat → List Nat
  | [], _ => []
  | p :: ps, c => c :: Th.nums ps (c + p.size)
mutual
def Th.rows : Th → Nat → List (Th × List Nat)
  | .raw h lo hi, _ => [(.raw h lo hi, [])]
  | .made h lo hi s w o ps, b => (.made h lo hi s w o ps, Th.nums ps (b + 1)) :: Th.rowss ps (b + 1)
def Th.rowss : List Th → Nat → List (Th × List Nat)
  | [], _ => []
  | p :: ps, c => p.rows c ++ Th.rowss ps (c + p.size)
end
mutual
theorem Th.rows_len : ∀ (t : Th) (b : Nat), (t.rows b).length = t.size
  | .raw _ _ _, _ => rfl
  | .made _ _ _ _ _ _ ps, b => by rw [Th.rows, List.length_cons, Th.rowss_len ps (b + 1), Th.size]
theorem Th.rowss_len : ∀ (ts : List Th) (b : Nat), (Th.rowss ts b).length = Th.sizes ts
  | [], _ => rfl
  | t :: ts, b => by rw [Th.rowss, List.length_append, Th.rows_len t b, Th.rowss_len ts, Th.sizes]
end
theorem Th.nums_len : ∀ (ts : List Th) (c : Nat), (Th.nums ts c).length = ts.length
  | [], _ => rfl
  | t :: ts, c => by rw [Th.nums, List.length_cons, Th.nums_len ts, List.length_cons]
theorem Th.len_sizes : ∀ (ts : List Th), ts.length ≤ Th.sizes ts
  | [] => Nat.le_refl _
  | t :: ts => by
    rw [List.length_cons, Th.sizes]
    have := Th.len_sizes ts
    have : 1 ≤ t.size := by cases t <;> simp [Th.size]
    omega
def natD (n : Nat) : D := .int n
/-- a row as the program has it, as the law has it -/
def rowP (r : Th × List Nat) : D := .tup [r.1.d, .tup (r.2.map natD)]
def rowL (r : Th × List Nat) : D := .tup [r.1.d, .lst (r.2.map natD)]
mutual
theorem Th.rows_ok : ∀ {t : Th} {b : Nat}, t.ok → ∀ r ∈ t.rows b, r.1.ok
  | .raw _ _ _, _, k, r, hr => by
    rw [Th.rows, List.mem_singleton] at hr
    subst hr; exact k
  | .made h lo hi s w o ps, b, k, r, hr => by
    rw [Th.rows] at hr
    rcases List.mem_cons.mp hr with rfl | hr
    · exact k
    · have k' := (show (0 ≤ lo ∧ lo ≤ hi ∧ hi ≤ 1000000) ∧ (0 ≤ s ∧ s ≤ 100) ∧ (1 ≤ ps.length ∧ ps.length ≤ 4) ∧ Th.oks ps by simpa only [Th.ok] using k)
      exact Th.rowss_ok k'.2.2.2 r hr
theorem Th.rowss_ok : ∀ {ts : List Th} {b : Nat}, Th.oks ts → ∀ r ∈ Th.rowss ts b, r.1.ok
  | [], _, _, r, hr => by rw [Th.rowss] at hr; cases hr
  | t :: ts, b, k, r, hr => by
    have k' := (show t.ok ∧ Th.oks ts by simpa only [Th.oks] using k)
    rw [Th.rowss] at hr
    rcases List.mem_append.mp hr with hr | hr
    · exact Th.rows_ok k'.1 r hr
    · exact Th.rowss_ok k'.2 r hr
end
theorem belows_nat {b : Nat} : ∀ (l : List Nat), belows b (l.map natD) = true
  | [] => rfl
  | x :: xs => by show (true && belows b (xs.map natD)) = true; rw [belows_nat xs] <;> rfl
theorem below_rowP {b : Nat} {r : Th × List Nat} (h : r.1.ok) : below b (rowP r) = true := by
  show (below b r.1.d && (belows b (r.2.map natD) && true)) = true
  rw [sh_below (Th.sh_d h), belows_nat] <;> rfl
theorem below_rowL {b : Nat} {r : Th × List Nat} (h : r.1.ok) : below b (rowL r) = true := by
  show (below b r.1.d && (belows b (r.2.map natD) && true)) = true
  rw [sh_below (Th.sh_d h), belows_nat] <;> rfl
theorem belows_of {b : Nat} {l : List D} (h : ∀ x ∈ l, below b x = true) : belows b l = true := by
  induction l with
  | nil => rfl
  | cons x xs ih =>
    show (below b x && belows b xs) = true
    rw [h x List.mem_cons_self, ih fun y hy => h y (List.mem_cons_of_mem _ hy)] <;> rfl
theorem belows_rowP {b : Nat} {l : List (Th × List Nat)} (h : ∀ r ∈ l, r.1.ok) : belows b (l.map rowP) = true := belows_of fun x hx => by
  obtain ⟨r, hr, rfl⟩ := List.mem_map.mp hx
  exact below_rowP (h r hr)
theorem belows_rowL {b : Nat} {l : List (Th × List Nat)} (h : ∀ r ∈ l, r.1.ok) : belows b (l.map rowL) = true := belows_of fun x hx => by
  obtain ⟨r, hr, rfl⟩ := List.mem_map.mp hx
  exact below_rowL (h r hr)
section
variable {S : Store} {A B A' : Ob}
theorem two0 : (S ++ [A, B])[S.length]? = some A := by simp
theorem two1 : (S ++ [A, B])[S.length + 1]? = some B := by
  rw [List.getElem?_append_right (by omega)]
  simp
theorem two0s : (S ++ [A, B]).set S.length A' = S ++ [A', B] := by
  rw [List.set_append_right _ _ (Nat.le_refl _)]; simp
theorem two1s : (S ++ [A, B]).set (S.length + 1) A' = S ++ [A, A'] := by
  rw [List.set_append_right _ _ (by omega)]; simp
theorem len_ref {r : Nat} {l : List D} {S : Store} (h : S[r]? = some (.lst l)) : biF .len [.ref r] S = .ok (.int l.length) S := by
  show (match S[r]? with
      | some (.lst l) => R.ok (D.int l.length) S
      | some (.dic l) => .ok (D.int l.length) S
      | _ => .no) = _
  rw [h]
theorem mth_extend {r : Nat} {x l : List D} {S : Store} (h : S[r]? = some (.lst l)) (hl : l.length + x.length ≤ LINE) (hb : belows r x = true) : mthF .extend (.ref r) [.lst x] S = .ok .non (S.set r (.lst (l ++ x))) := by
  show (match S[r]?, some x with
    | some (.lst l), some r' => if l.length + r'.length ≤ LINE ∧ belows r r' = true then R.ok D.non (S.set r (.lst (l ++ r'))) else .no
    | _, _ => .no) = _
  rw [h]
  simp only
  rw [if_pos ⟨hl, hb⟩]
theorem star_ref {r : Nat} {l : List D} {S : Store} {k : List D → Store → R (List D)} (h : S[r]? = some (.lst l)) : starR (.ref r) S k = k l S := by
  show (match (match S[r]? with | some (Ob.lst l) => some l | _ => none) with | some l => k l S | none => .no) = _
  rw [h]
end
theorem raw_eq {t : Th} {S : Store} : cmpF .eq (.str [114, 97, 119]) (.str [114, 97, 119]) S = .ok (.bl true) S := rfl
theorem made_eq {S : Store} : cmpF .eq (.str [109, 97, 100, 101]) (.str [114, 97, 119]) S = .ok (.bl false) S := rfl
section
variable {k : Nat} {S : Store}
abbrev body5 : St := (.seq (.ex (.mth .append (.var 3) (.cons (.bin .add (.bin .add (.var 1) (.con (.int 1))) (.bi .len (.cons (.var 2) .nil))) .nil)))
    (.seq (.ex (.mth .extend (.var 2) (.cons (.call 5 (.cons (.var 4) (.cons (.bin .add (.bin .add (.var 1) (.con (.int 1))) (.bi .len (.cons (.var 2) .nil))) .nil))) .nil)))
    .skip))
theorem numbered_loop {cl : Nat → List D → M D} {N b : Nat} {v0 : Option D} (H : ∀ (t : Th) (c : Nat) (S : Store), t.size ≤ N → t.ok → cl 5 [t.d, .int c] S = .ok (.lst ((t.rows c).map rowP)) S) :
    ∀ (ps : List Th) (w : Option D) (rs : List (Th × List Nat)) (ns : List Nat), Th.oks ps → Th.sizes ps ≤ N → (∀ r ∈ rs, r.1.ok) → rs.length + Th.sizes ps ≤ 1000000 → ns.length + ps.length ≤ 1000000 →
      ∃ w', forF (bodyF cl (.name 4) body5) (Th.ds ps) [v0, some (.int b), some (.ref S.length), some (.ref (S.length + 1)), w] (S ++ [.lst (rs.map rowP), .lst (ns.map natD)]) =
        .ok (.nx [v0, some (.int b), some (.ref S.length), some (.ref (S.length + 1)), w']) (S ++ [.lst ((rs ++ Th.rowss ps (b + 1 + rs.length)).map rowP), .lst ((ns ++ Th.nums ps (b + 1 + rs.length)).map natD)]) := by
  intro ps
  induction ps with
  | nil =>
    intro w rs ns _ _ _ _ _
    refine ⟨w, ?_⟩
    simp [Th.ds, Th.rowss, Th.nums]
  | cons p ps ih =>
    intro w rs ns hk hs hr h1 h2
    obtain ⟨k1, k2⟩ := (show p.ok ∧ Th.oks ps by simpa only [Th.oks] using hk)
    rw [Th.sizes] at hs h1
    rw [List.length_cons] at h2
    have p1 : 1 ≤ p.size := by cases p <;> simp [Th.size]
    have hlen : (Th.rows p (b + 1 + rs.length)).length = p.size := Th.rows_len _ _
    have hc : ((b + 1 + rs.length : Nat) : Int) = (b : Int) + 1 + (rs.length : Int) := by push_cast; rfl
    have e1 := H p (b + 1 + rs.length) (S ++ [.lst (rs.map rowP), .lst ((ns ++ [b + 1 + rs.length]).map natD)]) (by omega) k1
    rw [hc] at e1
    obtain ⟨w', e2⟩ := ih (some p.d) (rs ++ p.rows (b + 1 + rs.length)) (ns ++ [b + 1 + rs.length]) k2 (by omega) (fun r hr' => by
      rcases List.mem_append.mp hr' with z | z
      · exact hr r z
      · exact Th.rows_ok k1 r z) (by rw [List.length_append, hlen]; omega) (by rw [List.length_append, List.length_singleton]; omega)
    refine ⟨w', ?_⟩
    have hb : b + 1 + (rs ++ p.rows (b + 1 + rs.length)).length = b + 1 + rs.length + p.size := by rw [List.length_append, hlen]; omega
    rw [hb] at e2
    rw [Th.ds, forF_cons, bodyF_name (by simp)]
    have a1 := mth_append (S := S ++ [.lst (rs.map rowP), .lst (ns.map natD)]) (x := .int ((b : Int) + 1 + (rs.length : Int))) two1 (by rw [List.length_map]; unfold LINE; omega) rfl
    rw [two1s] at a1
    have a1' : ns.map natD ++ [D.int ((b : Int) + 1 + (rs.length : Int))] = (ns ++ [b + 1 + rs.length]).map natD := by
      rw [List.map_append, ← hc]; rfl
    rw [a1'] at a1
    have a2 := mth_extend (S := S ++ [.lst (rs.map rowP), .lst ((ns ++ [b + 1 + rs.length]).map natD)]) (x := (p.rows (b + 1 + rs.length)).map rowP) two0 (by rw [List.length_map, List.length_map, hlen]; unfold LINE; omega) (belows_rowP (Th.rows_ok k1))
    rw [two0s, ← List.map_append] at a2
    have r1 := recv_app (m := .append) (S := S ++ [.lst (rs.map rowP), .lst (ns.map natD)]) two1
    have r2 := recv_app (m := .extend) (S := S ++ [.lst (rs.map rowP), .lst ((ns ++ [b + 1 + rs.length]).map natD)]) two0
    have l1 := len_ref (S := S ++ [.lst (rs.map rowP), .lst (ns.map natD)]) two0
    have l2 := len_ref (S := S ++ [.lst (rs.map rowP), .lst ((ns ++ [b + 1 + rs.length]).map natD)]) two0
    rw [List.length_map] at l1 l2
    simp only [body5, ex_seq, ex_ex, ev_mth, ev_var, List.set, List.getElem?_cons_zero, List.getElem?_cons_succ, varR_some, rb_ok, r1, if_true, evs_cons, evs_nil, ev_bin, ev_con, ev_bi, l1, opF_addI, a1, flR_nx, r2, ev_call, l2, e1, a2, ex_skip]
    rw [e2, Th.rowss, Th.nums]
    simp only [List.append_assoc, List.singleton_append]
/-- the program's rows -/
theorem numbered_from_ok : ∀ (N : Nat) (t : Th) (k b : Nat) (S : Store), t.size ≤ N → N ≤ 100000 → t.ok → callF FF (k + N) 5 [t.d, .int b] S = .ok (.lst ((t.rows b).map rowP)) S := by
  intro N
  induction N with
  | zero => intro t k b S h; cases t <;> simp [Th.size] at h
  | succ N ih =>
    intro t k b S h hN hk
    rw [show k + (N + 1) = k + N + 1 by omega, call_eq F_5 rfl]
    cases t with
    | raw hh lo hi =>
      rw [Th.d, Th.rows]
      have : below S.length (D.tup [.str sRaw, landD hh, .int lo, .int hi]) = true := by unfold landD; rfl
      simp [f5, sRaw, raw_eq (t := .raw hh lo hi)]
      rw [finR_rt, List.take_length]
      · simp [rowP, Th.d, sRaw]
      · unfold landD; rfl
    | made hh lo hi s w o ps =>
      have k' := (show (0 ≤ lo ∧ lo ≤ hi ∧ hi ≤ 1000000) ∧ (0 ≤ s ∧ s ≤ 100) ∧ (1 ≤ ps.length ∧ ps.length ≤ 4) ∧ Th.oks ps by simpa only [Th.ok] using hk)
      rw [Th.size] at h
      have hl := Th.len_sizes ps
      obtain ⟨w', e⟩ := numbered_loop (S := S) (cl := callF FF (k + N)) (N := N) (b := b) (v0 := some (Th.made hh lo hi s w o ps).d) (fun t c S h1 h2 => ih t k c S h1 (by omega) h2) ps none [] [] k'.2.2.2 (by omega) (by simp) (by simp; omega) (by simp; omega)
      simp only [List.map_nil, List.nil_append, List.length_nil, Nat.add_zero] at e
      have t1 := biF_tupR (S := S ++ [.lst ((Th.rowss ps (b + 1)).map rowP), .lst ((Th.nums ps (b + 1)).map natD)]) two1
      have t2 : ∀ kk, starR (.ref S.length) (S ++ [.lst ((Th.rowss ps (b + 1)).map rowP), .lst ((Th.nums ps (b + 1)).map natD)]) kk = _ := fun kk => star_ref two0
      have hz : ((Th.rowss ps (b + 1)).map rowP).length + 1 ≤ LINE := by rw [List.length_map, Th.rowss_len]; unfold LINE; omega
      rw [Th.d] at e ⊢
      rw [Th.rows]
      simp [f5, sMade, made_eq] at e ⊢
      rw [e]
      simp [t1, t2]
      rw [show szR _ _ _ = _ from if_pos (by rw [List.length_cons]; exact hz)]
      simp
      rw [finR_rt]
      · rw [List.take_left]
        simp [rowP, Th.d, sMade]
      · have q1 := belows_rowP (b := S.length) (Th.rowss_ok (b := b + 1) k'.2.2.2)
        have q2 := sh_below (b := S.length) (Th.sh_d hk)
        rw [Th.d] at q2
        show (below S.length (.tup [_, _]) && belows S.length _) = true
        rw [q1]
        show ((below S.length _ && (belows S.length _ && true)) && true) = true
        rw [belows_nat]
        simp only [sMade] at q2
        rw [q2] <;> rfl
end
end Pf

set_option linter.all false
set_option Elab.async false
set_option maxRecDepth 100000
set_option maxHeartbeats 1000000
set_option autoImplicit false
/-! PfA8: the law's rows -/
namespace Pf
section
variable {k : Nat} {S : Store}
abbrev body34 : St := (.seq (.asg (.name 3) (.bin .add (.var 3) (.lst false (.cons (.bin .add (.bin .add (.var 1) (.con (.int 1))) (.bi .len (.cons (.var 2) .nil))) .nil))))
    (.seq (.asg (.name 2) (.bin .add (.var 2) (.call 34 (.cons (.var 4) (.cons (.bin .add (.bin .add (.var 1) (.con (.int 1))) (.bi .len (.cons (.var 2) .nil))) .nil)))))
    .skip))
theorem lrows_loop {cl : Nat → List D → M D} {N b : Nat} {v0 : Option D} (H : ∀ (t : Th) (c : Nat) (S : Store), t.size ≤ N → t.ok → cl 34 [t.d, .int c] S = .ok (.lst ((t.rows c).map rowL)) S) :
    ∀ (ps : List Th) (w : Option D) (rs : List (Th × List Nat)) (ns : List Nat), Th.oks ps → Th.sizes ps ≤ N → rs.length + Th.sizes ps ≤ 1000000 → ns.length + ps.length ≤ 1000000 →
      ∃ w', forF (bodyF cl (.name 4) body34) (Th.ds ps) [v0, some (.int b), some (.lst (rs.map rowL)), some (.lst (ns.map natD)), w] S =
        .ok (.nx [v0, some (.int b), some (.lst ((rs ++ Th.rowss ps (b + 1 + rs.length)).map rowL)), some (.lst ((ns ++ Th.nums ps (b + 1 + rs.length)).map natD)), w']) S := by
  intro ps
  induction ps with
  | nil =>
    intro w rs ns _ _ _ _
    refine ⟨w, ?_⟩
    simp [Th.ds, Th.rowss, Th.nums]
  | cons p ps ih =>
    intro w rs ns hk hs h1 h2
    obtain ⟨k1, k2⟩ := (show p.ok ∧ Th.oks ps by simpa only [Th.oks] using hk)
    rw [Th.sizes] at hs h1
    rw [List.length_cons] at h2
    have p1 : 1 ≤ p.size := by cases p <;> simp [Th.size]
    have hlen : (Th.rows p (b + 1 + rs.length)).length = p.size := Th.rows_len _ _
    have hc : ((b + 1 + rs.length : Nat) : Int) = (b : Int) + 1 + (rs.length : Int) := by push_cast; rfl
    have e1 := H p (b + 1 + rs.length) S (by omega) k1
    rw [hc] at e1
    obtain ⟨w', e2⟩ := ih (some p.d) (rs ++ p.rows (b + 1 + rs.length)) (ns ++ [b + 1 + rs.length]) k2 (by omega) (by rw [List.length_append, hlen]; omega) (by rw [List.length_append, List.length_singleton]; omega)
    refine ⟨w', ?_⟩
    have hb : b + 1 + (rs ++ p.rows (b + 1 + rs.length)).length = b + 1 + rs.length + p.size := by rw [List.length_append, hlen]; omega
    rw [hb] at e2
    rw [Th.ds, forF_cons, bodyF_name (by simp)]
    have a1 := addL (S := S) (a := ns.map natD) (b := [D.int ((b : Int) + 1 + (rs.length : Int))]) (by rw [List.length_map, List.length_singleton]; unfold LINE; omega)
    have a1' : ns.map natD ++ [D.int ((b : Int) + 1 + (rs.length : Int))] = (ns ++ [b + 1 + rs.length]).map natD := by
      rw [List.map_append, ← hc]; rfl
    rw [a1'] at a1
    have a2 := addL (S := S) (a := rs.map rowL) (b := (p.rows (b + 1 + rs.length)).map rowL) (by rw [List.length_map, List.length_map, hlen]; unfold LINE; omega)
    rw [← List.map_append] at a2
    simp only [body34, ex_seq, ex_asg, ev_var, List.set, List.getElem?_cons_zero, List.getElem?_cons_succ, varR_some, rb_ok, evs_cons, evs_nil, ev_bin, ev_lst, szR_one, mkL_f, ev_con, ev_bi, biF_lenL, List.length_map, opF_addI, a1, flR_nx, ev_call, e1, a2, ex_skip, bindT_name, List.length_cons, List.length_nil, Nat.reduceAdd, Nat.reduceLT, if_true]
    rw [e2, Th.rowss, Th.nums]
    simp only [List.append_assoc, List.singleton_append]
theorem law_rows_ok : ∀ (N : Nat) (t : Th) (k b : Nat) (S : Store), t.size ≤ N → N ≤ 100000 → t.ok → callF FF (k + N) 34 [t.d, .int b] S = .ok (.lst ((t.rows b).map rowL)) S := by
  intro N
  induction N with
  | zero => intro t k b S h; cases t <;> simp [Th.size] at h
  | succ N ih =>
    intro t k b S h hN hk
    rw [show k + (N + 1) = k + N + 1 by omega, call_eq F_34 rfl]
    cases t with
    | raw hh lo hi =>
      rw [Th.d, Th.rows]
      have c1 : cmpF .eq (.str [114, 97, 119]) (.str [109, 97, 100, 101]) S = .ok (.bl false) S := rfl
      have a1 : ∀ x : D, opF .add (.lst [x]) (.lst []) S = .ok (.lst [x]) S := fun x => addL (show 1 ≤ LINE by decide)
      simp [f34, sRaw, c1, a1]
      rw [finR_rt, List.take_length]
      · simp [rowL, Th.d, sRaw]
      · unfold landD; rfl
    | made hh lo hi s w o ps =>
      have k' := (show (0 ≤ lo ∧ lo ≤ hi ∧ hi ≤ 1000000) ∧ (0 ≤ s ∧ s ≤ 100) ∧ (1 ≤ ps.length ∧ ps.length ≤ 4) ∧ Th.oks ps by simpa only [Th.ok] using hk)
      rw [Th.size] at h
      have hl := Th.len_sizes ps
      obtain ⟨w', e⟩ := lrows_loop (S := S) (cl := callF FF (k + N)) (N := N) (b := b) (v0 := some (Th.made hh lo hi s w o ps).d) (fun t c S h1 h2 => ih t k c S h1 (by omega) h2) ps none [] [] k'.2.2.2 (by omega) (by simp; omega) (by simp; omega)
      simp only [List.map_nil, List.nil_append, List.length_nil, Nat.add_zero] at e
      have c1 : cmpF .eq (.str [109, 97, 100, 101]) (.str [109, 97, 100, 101]) S = .ok (.bl true) S := rfl
      have a1 : ∀ x : D, opF .add (.lst [x]) (.lst ((Th.rowss ps (b + 1)).map rowL)) S = .ok (.lst (x :: (Th.rowss ps (b + 1)).map rowL)) S := fun x => addL (by rw [List.length_map, Th.rowss_len, List.length_singleton]; unfold LINE; omega)
      rw [Th.d] at e ⊢
      rw [Th.rows]
      simp [f34, sMade, c1] at e ⊢
      rw [e]
      simp [a1]
      rw [finR_rt]
      · rw [List.take_length]
        simp [rowL, Th.d, sMade]
      · have q1 := belows_rowL (b := S.length) (Th.rowss_ok (b := b + 1) k'.2.2.2)
        have q2 := sh_below (b := S.length) (Th.sh_d hk)
        rw [Th.d] at q2
        show (below S.length (.tup [_, _]) && belows S.length _) = true
        rw [q1]
        show ((below S.length _ && (belows S.length _ && true)) && true) = true
        rw [belows_nat]
        simp only [sMade] at q2
        rw [q2] <;> rfl
theorem numbered_ok {t : Th} {N : Nat} (h : t.size ≤ N) (hN : N ≤ 100000) (hk : t.ok) : callF FF (k + N + 1) 6 [t.d] S = .ok (.lst ((t.rows 0).map rowP)) S := by
  rw [call_eq F_6 rfl]
  have e := numbered_from_ok N t k 0 S h hN hk
  simp [f6] at e ⊢
  rw [e]
  simp
  rw [finR_rt, List.take_length]
  exact belows_rowP (Th.rows_ok hk)
end
end Pf

set_option linter.all false
set_option Elab.async false
set_option maxRecDepth 100000
set_option maxHeartbeats 1000000
set_option autoImplicit false
/-! PfA9: a well formed good has no fault -/
namespace Pf
mutual
theorem Th.dep_d : ∀ (t : Th), dep t.d ≤ 2 * t.size + 2
  | .raw h lo hi => by
    have : dep (Th.raw h lo hi).d = 1 := by rw [Th.d]; unfold landD; rfl
    rw [this, Th.size]; omega
  | .made h lo hi s w o ps => by
    have := Th.deps_ds ps
    have e : dep (Th.made h lo hi s w o ps).d = max 0 (max 0 (max 0 (max 0 (max 1 (max (deps (Th.ds ps) + 1) 0))))) + 1 := by rw [Th.d]; unfold landD termD upD dnD; rfl
    rw [e, Th.size]; omega
theorem Th.deps_ds : ∀ (ts : List Th), deps (Th.ds ts) ≤ 2 * Th.sizes ts + 2
  | [] => by rw [Th.ds]; show 0 ≤ _; omega
  | t :: ts => by
    have h1 := Th.dep_d t
    have h2 := Th.deps_ds ts
    have p1 : 1 ≤ t.size := by cases t <;> simp [Th.size]
    rw [Th.ds, Th.sizes]
    show max (dep t.d) (deps (Th.ds ts)) ≤ _
    by_cases hz : Th.sizes ts = 0
    · have : ts = [] := by
        have := Th.len_sizes ts
        exact List.eq_nil_of_length_eq_zero (by omega)
      subst this
      rw [Th.ds]
      show max (dep t.d) 0 ≤ _
      omega
    · omega
end
theorem Th.okD_d {t : Th} (h : t.ok) (hs : t.size ≤ 20) : okD t.d = true := okD_of (Th.sh_d h) (by have := Th.dep_d t; omega)
section
variable {k : Nat} {S : Store}
theorem cmp_eq_of {a b : D} (ha : sh a = true) (hb : sh b = true) (da : dep a ≤ 60) (db : dep b ≤ 60) : cmpF .eq a b S = .ok (.bl (eqD a b)) S := by
  show (if okD (der S a) && okD (der S b) then R.ok (D.bl (eqD (der S a) (der S b))) S else .no) = _
  rw [der_sh ha, der_sh hb, okD_of ha da, okD_of hb db] <;> rfl
theorem cmp_ne_of {a b : D} (ha : sh a = true) (hb : sh b = true) (da : dep a ≤ 60) (db : dep b ≤ 60) : cmpF .ne a b S = .ok (.bl (!eqD a b)) S := by
  show (if okD (der S a) && okD (der S b) then R.ok (D.bl (!eqD (der S a) (der S b))) S else .no) = _
  rw [der_sh ha, der_sh hb, okD_of ha da, okD_of hb db] <;> rfl
theorem is_whole_ok {i lo hi : Int} : callF FF (k + 1) 16 [.int i, .int lo, .int hi] S = .ok (.bl (decide (lo ≤ i) && decide (i ≤ hi))) S := by
  rw [call_eq F_16 rfl]
  have i1 : isiF .int (.int i) S = .ok (.bl true) S := rfl
  have i2 : isiF .bool (.int i) S = .ok (.bl false) S := rfl
  by_cases h : lo ≤ i
  · simp [f16, i1, i2, h]
    rw [finR_rt rfl, List.take_length]
  · simp [f16, i1, i2, h]
    rw [finR_rt rfl, List.take_length]
theorem is_rule_ok {s : Int} {w o : Bool} (h0 : 0 ≤ s) (h1 : s ≤ 100) : callF FF (k + 2) 17 [termD s w o] S = .ok (.bl true) S := by
  rw [call_eq F_17 rfl]
  unfold termD
  have i1 : ∀ l, isiF .tuple (.tup l) S = .ok (.bl true) S := fun l => rfl
  have i2 : isiF .str (upD w) S = .ok (.bl true) S := by unfold upD; rfl
  have i3 : isiF .str (dnD o) S = .ok (.bl true) S := by unfold dnD; rfl
  have c1 : cmpF .isin (upD w) (.tup [.str [119, 104, 111, 108, 101], .str [111, 119, 110]]) S = .ok (.bl true) S := by cases w <;> rfl
  have c2 : cmpF .isin (dnD o) (.tup [.str [111, 119, 110], .str [110, 111, 110, 101]]) S = .ok (.bl true) S := by cases o <;> rfl
  simp [f17, i1, i2, i3, c1, c2, is_whole_ok, h0, h1]
  rw [finR_rt rfl, List.take_length]
theorem eq_nil_tup {a : D} {l : List D} (h : sh (.tup (a :: l)) = true) (hd : dep (.tup (a :: l)) ≤ 60) : cmpF .eq (.tup (a :: l)) (.tup []) S = .ok (.bl false) S := by
  rw [cmp_eq_of (b := .tup []) h rfl hd (by decide)]; rfl
theorem ne_nil_tup {a : D} {l : List D} (h : sh (.tup (a :: l)) = true) (hd : dep (.tup (a :: l)) ≤ 60) : cmpF .ne (.tup (a :: l)) (.tup []) S = .ok (.bl true) S := by
  rw [cmp_ne_of (b := .tup []) h rfl hd (by decide)]; rfl
theorem has_form_ok {t : Th} (h : t.ok) (hs : t.size ≤ 20) : callF FF (k + 1) 18 [t.d] S = .ok (.bl true) S := by
  rw [call_eq F_18 rfl]
  have h1 := Th.sh_d h
  have h2 : dep t.d ≤ 60 := by have := Th.dep_d t; omega
  have i1 : ∀ l, isiF .tuple (.tup l) S = .ok (.bl true) S := fun l => rfl
  have i2 : ∀ l, isiF .str (.str l) S = .ok (.bl true) S := fun l => rfl
  cases t with
  | raw hh lo hi =>
    rw [Th.d] at h1 h2 ⊢
    have c1 : cmpF .eq (.str sRaw) (.str [114, 97, 119]) S = .ok (.bl true) S := rfl
    simp [f18, i1, i2, eq_nil_tup h1 h2, c1]
    rw [finR_rt rfl, List.take_length]
  | made hh lo hi s w o ps =>
    rw [Th.d] at h1 h2 ⊢
    have c1 : cmpF .eq (.str sMade) (.str [114, 97, 119]) S = .ok (.bl false) S := rfl
    have c2 : cmpF .eq (.str sMade) (.str [109, 97, 100, 101]) S = .ok (.bl true) S := rfl
    simp [f18, i1, i2, eq_nil_tup h1 h2, c1, c2]
    rw [finR_rt rfl, List.take_length]
def Th.isMade : Th → Bool
  | .raw _ _ _ => false
  | .made .. => true
theorem is_made_ok {t : Th} (h : t.ok) (hs : t.size ≤ 20) : callF FF (k + 1) 20 [t.d] S = .ok (.bl t.isMade) S := by
  rw [call_eq F_20 rfl]
  have h1 := Th.sh_d h
  have h2 : dep t.d ≤ 60 := by have := Th.dep_d t; omega
  have i1 : ∀ l, isiF .tuple (.tup l) S = .ok (.bl true) S := fun l => rfl
  have i2 : ∀ l, isiF .str (.str l) S = .ok (.bl true) S := fun l => rfl
  cases t with
  | raw hh lo hi =>
    rw [Th.d] at h1 h2 ⊢
    have c1 : cmpF .eq (.str sRaw) (.str [109, 97, 100, 101]) S = .ok (.bl false) S := rfl
    simp [f20, i1, i2, ne_nil_tup h1 h2, c1]
    rw [finR_rt rfl, List.take_length]
    rfl
  | made hh lo hi s w o ps =>
    rw [Th.d] at h1 h2 ⊢
    have c2 : cmpF .eq (.str sMade) (.str [109, 97, 100, 101]) S = .ok (.bl true) S := rfl
    simp [f20, i1, i2, ne_nil_tup h1 h2, c2]
    rw [finR_rt rfl, List.take_length]
    rfl
theorem wrong_part_ok {t : Th} (h : t.ok) (hs : t.size ≤ 20) : callF FF (k + 3) 19 [t.d] S = .ok .non S := by
  have e1 := has_form_ok (k := k + 1) (S := S) h hs
  rw [call_eq F_19 rfl]
  have i2 : ∀ b, isiF .str (landD b) S = .ok (.bl true) S := fun l => by unfold landD; rfl
  have i1 : ∀ l, isiF .tuple (.tup l) S = .ok (.bl true) S := fun l => rfl
  have c0 : ∀ b, cmpF .notin (landD b) (.tup [.str [104, 101, 114, 101], .str [97, 119, 97, 121]]) S = .ok (.bl false) S := fun b => by cases b <;> rfl
  cases t with
  | raw hh lo hi =>
    obtain ⟨k1, k2, k3⟩ := (show 0 ≤ lo ∧ lo ≤ hi ∧ hi ≤ 1000000 by simpa only [Th.ok] using h)
    rw [Th.d] at e1 ⊢
    have c1 : cmpF .eq (.str sRaw) (.str [114, 97, 119]) S = .ok (.bl true) S := rfl
    have k4 : lo ≤ 1000000 := by omega
    simp [f19, e1, i2, c0, is_whole_ok, k1, k2, k3, k4, c1]
    rw [finR_rt rfl, List.take_length]
  | made hh lo hi s w o ps =>
    obtain ⟨⟨k1, k2, k3⟩, ⟨k5, k6⟩, ⟨k7, k8⟩, k9⟩ := (show (0 ≤ lo ∧ lo ≤ hi ∧ hi ≤ 1000000) ∧ (0 ≤ s ∧ s ≤ 100) ∧ (1 ≤ ps.length ∧ ps.length ≤ 4) ∧ Th.oks ps by simpa only [Th.ok] using h)
    rw [Th.d] at e1 ⊢
    have c1 : cmpF .eq (.str sMade) (.str [114, 97, 119]) S = .ok (.bl false) S := rfl
    have k4 : lo ≤ 1000000 := by omega
    have l1 : (1 : Int) ≤ ((Th.ds ps).length : Int) := by rw [Th.ds_map, List.length_map]; omega
    have l2 : ((Th.ds ps).length : Int) ≤ 4 := by rw [Th.ds_map, List.length_map]; omega
    simp [f19, e1, i2, c0, is_whole_ok, k1, k2, k3, k4, c1, is_rule_ok k5 k6, i1, l1, l2]
    rw [finR_rt rfl, List.take_length]
end
end Pf

set_option linter.all false
set_option Elab.async false
set_option maxRecDepth 100000
set_option maxHeartbeats 1000000
set_option autoImplicit false
/-! PfB1: fault_in -/
namespace Pf
section
variable {k : Nat} {S : Store}
theorem one0 {A : Ob} : (S ++ [A])[S.length]? = some A := by simp
theorem one0s {A A' : Ob} : (S ++ [A]).set S.length A' = S ++ [A'] := by
  rw [List.set_append_right _ _ (Nat.le_refl _)]; simp
theorem mth_pop {r : Nat} {l : List D} {x : D} {S : Store} (h : S[r]? = some (.lst (l ++ [x]))) : mthF .pop (.ref r) [] S = .ok x (S.set r (.lst l)) := by
  show (match S[r]? with
    | some (.lst l) => match l[l.length - 1]? with
      | some x => R.ok x (S.set r (.lst l.dropLast))
      | none => .no
    | _ => .no) = _
  rw [h]
  simp
theorem ne_nil_ref {r : Nat} {l : List D} {S : Store} (h : S[r]? = some (.lst l)) (h1 : shs l = true) (h2 : dep (.lst l) ≤ 60) : cmpF .ne (.ref r) (.lst []) S = .ok (.bl (!l.isEmpty)) S := by
  have e : der S (.ref r) = .lst l := by
    show (match S[r]? with | some (Ob.lst l) => D.lst l | _ => .ref r) = _
    rw [h]
  show (if okD (der S (.ref r)) && okD (der S (.lst [])) then R.ok (D.bl (!eqD (der S (.ref r)) (der S (.lst [])))) S else .no) = _
  rw [e, okD_of (d := .lst l) h1 h2]
  cases l <;> rfl
theorem list_tup {l : List D} : biF (.list false) [.tup l] S = .ok (.lst l) S := rfl
abbrev body21 : St := (.seq (.asg (.name 4) (.mth .pop (.var 1) .nil))
    (.seq (.asg (.tup [(.name 2), (.name 3)]) (.tup (.cons (.bin .add (.var 2) (.con (.int 1))) (.cons (.bin .add (.var 3) (.bi .int (.cons (.call 20 (.cons (.var 4) .nil)) .nil))) .nil))))
    (.seq (.ifs (.or (.cmp .eq (.var 2) (.con (.int 10))) (.and (.call 20 (.cons (.var 4) .nil)) (.cmp .gt (.var 3) (.con (.int 4)))))
    (.seq (.ret (.tup (.cons (.var 2) (.cons (.con (.str [109, 97, 110, 121])) .nil))))
    .skip)
    .skip)
    (.seq (.asg (.name 5) (.call 19 (.cons (.var 4) .nil)))
    (.seq (.ifs (.cmp .isnot (.var 5) (.con .non))
    (.seq (.ret (.tup (.cons (.var 2) (.cons (.var 5) .nil))))
    .skip)
    .skip)
    (.seq (.ifs (.cmp .eq (.idx (.var 4) (.con (.int 0))) (.con (.str [109, 97, 100, 101])))
    (.seq (.ex (.mth .extend (.var 1) (.cons (.rev false (.bi (.list false) (.cons (.idx (.var 4) (.con (.int 5))) .nil))) .nil)))
    .skip)
    .skip)
    .skip))))))
theorem deps_rev_map {ts : List Th} {n : Nat} (h : ∀ t ∈ ts, dep t.d ≤ n) : deps ((ts.map Th.d).reverse) ≤ n := by
  have key : ∀ l : List D, (∀ d ∈ l, dep d ≤ n) → deps l ≤ n := by
    intro l
    induction l with
    | nil => intro _; show 0 ≤ n; omega
    | cons x xs ih =>
      intro hh
      have h1 := hh x List.mem_cons_self
      have h2 := ih fun d hd => hh d (List.mem_cons_of_mem _ hd)
      show max (dep x) (deps xs) ≤ n
      omega
  refine key _ fun d hd => ?_
  rw [List.mem_reverse, List.mem_map] at hd
  obtain ⟨t, ht, rfl⟩ := hd
  exact h t ht
theorem size_mem {t : Th} : ∀ {ts : List Th}, t ∈ ts → t.size ≤ Th.sizes ts
  | [], h => by cases h
  | x :: xs, h => by
    rw [Th.sizes]
    rcases List.mem_cons.mp h with rfl | h
    · omega
    · have := size_mem h; omega
theorem fault_loop : ∀ (f : Nat) (ts : List Th) (v0 w4 w5 : Option D) (num mk : Int), Th.sizes ts < f → Th.oks ts → 0 ≤ num + 1 → num + Th.sizes ts ≤ 9 → mk + Th.madess ts ≤ 4 →
    ∃ w4' w5' num' mk', whlE (callF FF (k + 3)) (.cmp .ne (.var 1) (.lst false .nil)) body21 f [v0, some (.ref S.length), some (.int num), some (.int mk), w4, w5] (S ++ [.lst (ts.map Th.d).reverse]) =
      .ok (.nx [v0, some (.ref S.length), some (.int num'), some (.int mk'), w4', w5']) (S ++ [.lst []]) := by
  intro f
  induction f with
  | zero => intro ts v0 w4 w5 num mk h; omega
  | succ f ih =>
    intro ts v0 w4 w5 num mk h hk h0 h1 h2
    rw [whlE_succ]
    have hsh : shs ((ts.map Th.d).reverse) = true := shs_iff.mpr fun x hx => by
      rw [List.mem_reverse, List.mem_map] at hx
      obtain ⟨t, ht, rfl⟩ := hx
      exact Th.sh_d (Th.oks_iff.mp hk t ht)
    have hdep : dep (.lst ((ts.map Th.d).reverse)) ≤ 60 := by
      show deps _ + 1 ≤ 60
      have : deps ((ts.map Th.d).reverse) ≤ 50 := deps_rev_map fun t ht => by
        have a1 := Th.dep_d t
        have a2 := size_mem ht
        omega
      omega
    have hne := ne_nil_ref (S := S ++ [.lst (ts.map Th.d).reverse]) one0 hsh hdep
    cases ts with
    | nil =>
      refine ⟨w4, w5, num, mk, ?_⟩
      simp at hne ⊢
      simp [hne]
    | cons t ts =>
      obtain ⟨k1, k2⟩ := (show t.ok ∧ Th.oks ts by simpa only [Th.oks] using hk)
      rw [Th.sizes] at h h1
      rw [Th.madess] at h2
      have hts : t.size ≤ 20 := by omega
      have p1 : 1 ≤ t.size := by cases t <;> simp [Th.size]
      have hne' : cmpF .ne (.ref S.length) (.lst []) (S ++ [.lst ((ts.map Th.d).reverse ++ [t.d])]) = .ok (.bl true) (S ++ [.lst ((ts.map Th.d).reverse ++ [t.d])]) := by
        have z : ((ts.map Th.d).reverse ++ [t.d]).isEmpty = false := by cases (ts.map Th.d).reverse <;> rfl
        simp only [List.map_cons, List.reverse_cons, z] at hne
        exact hne
      have hpop := mth_pop (S := S ++ [.lst ((ts.map Th.d).reverse ++ [t.d])]) one0
      rw [one0s] at hpop
      have hrc := recv_app (m := .pop) (S := S ++ [.lst ((ts.map Th.d).reverse ++ [t.d])]) one0
      have hrc2 := recv_app (m := .extend) (S := S ++ [.lst ((ts.map Th.d).reverse)]) one0
      have m1 : ∀ S, callF FF (k + 3) 20 [t.d] S = .ok (.bl t.isMade) S := fun S => is_made_ok (k := k + 2) k1 hts
      have m2 : ∀ S, callF FF (k + 3) 19 [t.d] S = .ok .non S := fun S => wrong_part_ok (k := k) k1 hts
      have c0 : ∀ S, cmpF .isnot .non .non S = .ok (.bl false) S := fun S => rfl
      have n10 : ¬ (num + 1 = 10) := by omega
      have hgoal : S ++ [Ob.lst ((t :: ts).map Th.d).reverse] = S ++ [.lst ((ts.map Th.d).reverse ++ [t.d])] := by simp
      rw [hgoal]
      cases t with
      | raw hh lo hi =>
        obtain ⟨w4', w5', num', mk', e⟩ := ih ts v0 (some (Th.raw hh lo hi).d) (some .non) (num + 1) (mk + 0) (by omega) k2 (by omega) (by omega) (by simp [Th.mades] at h2; omega)
        refine ⟨w4', w5', num', mk', ?_⟩
        rw [← e]
        have c1 : ∀ S, cmpF .eq (.str sRaw) (.str [109, 97, 100, 101]) S = .ok (.bl false) S := fun S => rfl
        simp only [Th.isMade] at m1
        rw [Th.d] at m1 m2 hne' hpop hrc ⊢
        simp [body21, hne', hrc, hpop, m1, n10, m2, c0, c1]
      | made hh lo hi s w o ps =>
        have k' := (show (0 ≤ lo ∧ lo ≤ hi ∧ hi ≤ 1000000) ∧ (0 ≤ s ∧ s ≤ 100) ∧ (1 ≤ ps.length ∧ ps.length ≤ 4) ∧ Th.oks ps by simpa only [Th.ok] using k1)
        rw [Th.size] at h h1
        rw [Th.mades] at h2
        obtain ⟨w4', w5', num', mk', e⟩ := ih (ps ++ ts) v0 (some (Th.made hh lo hi s w o ps).d) (some .non) (num + 1) (mk + 1) (by rw [Th.sizes_append]; omega) (Th.oks_iff.mpr fun x hx => by
            rcases List.mem_append.mp hx with z | z
            · exact Th.oks_iff.mp k'.2.2.2 x z
            · exact Th.oks_iff.mp k2 x z) (by omega) (by rw [Th.sizes_append]; omega) (by rw [Th.madess_append]; omega)
        refine ⟨w4', w5', num', mk', ?_⟩
        rw [← e]
        have c1 : ∀ S, cmpF .eq (.str sMade) (.str [109, 97, 100, 101]) S = .ok (.bl true) S := fun S => rfl
        have n4 : ¬ (4 < mk + 1) := by omega
        have hx := mth_extend (S := S ++ [.lst ((ts.map Th.d).reverse)]) (x := (Th.ds ps).reverse) one0 (by
          rw [List.length_reverse, List.length_map, List.length_reverse, Th.ds_map, List.length_map]
          have := Th.len_sizes ts
          unfold LINE; omega) (belows_of fun x hx => by
            rw [List.mem_reverse, Th.ds_map, List.mem_map] at hx
            obtain ⟨y, hy, rfl⟩ := hx
            exact sh_below (Th.sh_d (Th.oks_iff.mp k'.2.2.2 y hy)))
        rw [one0s] at hx
        simp only [Th.isMade] at m1
        rw [Th.d] at m1 m2 hne' hpop hrc ⊢
        simp [body21, hne', hrc, hpop, m1, n10, n4, m2, c0, c1, hrc2, list_tup, hx]
        rw [Th.ds_map]
theorem fault_in_ok {t : Th} (h : t.ok) (hs : t.size ≤ 10) (hm : t.mades ≤ 4) : callF FF (k + 4) 21 [t.d] S = .ok (.tup []) S := by
  rw [call_eq F_21 rfl]
  obtain ⟨w4', w5', num', mk', e⟩ := fault_loop (k := k) (S := S) WF [t] (some t.d) none none (-1) 0 (by simp [Th.sizes]; have := lt_WF (n := 10) (by decide); omega) (by simp [Th.oks]; exact h) (by omega) (by simp [Th.sizes]; omega) (by simp [Th.madess]; omega)
  simp [f21] at e ⊢
  rw [e]
  simp
  rw [finR_rt rfl, List.take_left]
end
end Pf

set_option linter.all false
set_option Elab.async false
set_option maxRecDepth 100000
set_option maxHeartbeats 1000000
set_option autoImplicit false
/-! PfB2: comprehensions; need_good -/
namespace Pf
theorem collect_run {f : D → M (Option D)} {x : D} {xs : List D} {S : Store} : collect f (x :: xs) S = rb (f x S) fun y S => rb (collect f xs S) fun ys S => .ok (match y with | some y => y :: ys | none => ys) S := by
  show M.bind (f x) (fun y => M.bind (collect f xs) fun ys => match y with | some y => M.pure (y :: ys) | none => M.pure ys) S = _
  unfold M.bind
  cases f x S with
  | ok y S1 =>
    simp only [rb_ok]
    cases collect f xs S1 with
    | ok ys S2 => cases y <;> rfl
    | _ => rfl
  | _ => rfl
theorem collect_map {α : Type} {f : D → M (Option D)} {S : Store} {c : α → D} {g : α → Option D} : ∀ {rows : List α}, (∀ r ∈ rows, f (c r) S = .ok (g r) S) → collect f (rows.map c) S = .ok (rows.filterMap g) S
  | [], _ => rfl
  | r :: rs, h => by
    rw [List.map_cons, collect_run, h r List.mem_cons_self, rb_ok, collect_map fun r hr => h r (List.mem_cons_of_mem _ hr), rb_ok, List.filterMap_cons]
    cases g r <;> rfl
theorem collect_maps {α : Type} {f : D → M (Option D)} {S : Store} {c y : α → D} {rows : List α} (h : ∀ r ∈ rows, f (c r) S = .ok (some (y r)) S) : collect f (rows.map c) S = .ok (rows.map y) S := by
  rw [collect_map (g := fun r => some (y r)) h]
  congr 1
  induction rows with
  | nil => rfl
  | cons r rs ih =>
    rw [List.filterMap_cons, List.map_cons]
    simp only
    rw [ih fun r hr => h r (List.mem_cons_of_mem _ hr)]
def enumFM {α : Type} (g : Nat → α → Option D) : Nat → List α → List D
  | _, [] => []
  | i, r :: rs => (g i r).toList ++ enumFM g (i + 1) rs
theorem collect_enum {α : Type} {f : D → M (Option D)} {S : Store} {c : α → D} {g : Nat → α → Option D} : ∀ {rows : List α} {i : Nat}, (∀ i, ∀ r ∈ rows, f (.tup [.int (i : Nat), c r]) S = .ok (g i r) S) → collect f (enumFrom i (rows.map c)) S = .ok (enumFM g i rows) S
  | [], _, _ => rfl
  | r :: rs, i, h => by
    rw [List.map_cons, enumFrom, collect_run, h i r List.mem_cons_self, rb_ok, collect_enum (i := i + 1) fun j r hr => h j r (List.mem_cons_of_mem _ hr), rb_ok, enumFM]
    cases g i r <;> rfl
theorem turn_run {cl : Nat → List D → M D} {p : Pt} {own : List Nat} {c : Oe} {elt : E} {ρ ρ' : Ev} {d : D} {S : Store} (hb : bindP p d (wipeE ρ own) = some ρ') :
    turnF cl p own c elt ρ d S = rb (evC cl c ρ' S) fun b S => if b then rb (ev cl elt ρ' S) fun y S => .ok (some y) S else .ok none S := by
  unfold turnF
  rw [hb]
  show (evC cl c ρ' >>= fun b => if b = true then (ev cl elt ρ' >>= fun y => pure (some y)) else pure none) S = _
  rw [bind_rb]
  congr 1
  funext b S
  cases b with
  | true =>
    show (ev cl elt ρ' >>= fun y => pure (some y)) S = _
    rw [bind_rb]
    rfl
  | false => rfl
def Th.lo : Th → Int
  | .raw _ lo _ => lo
  | .made _ lo _ _ _ _ _ => lo
def Th.hi : Th → Int
  | .raw _ _ hi => hi
  | .made _ _ hi _ _ _ _ => hi
def Th.here : Th → Bool
  | .raw h _ _ => h
  | .made h _ _ _ _ _ _ => h
section
variable {k : Nat} {S : Store}
theorem idx_lo {t : Th} : idxF t.d (.int 2) S = .ok (.int t.lo) S := by cases t <;> (rw [Th.d]; simp [Th.lo])
theorem idx_hi {t : Th} : idxF t.d (.int 3) S = .ok (.int t.hi) S := by cases t <;> (rw [Th.d]; simp [Th.hi])
theorem idx_land {t : Th} : idxF t.d (.int 1) S = .ok (landD t.here) S := by cases t <;> (rw [Th.d]; simp [Th.here])
theorem idx_kind {t : Th} : idxF t.d (.int 0) S = .ok (.str (if t.isMade then sMade else sRaw)) S := by cases t <;> (rw [Th.d]; simp [Th.isMade])
def isMv (i : Nat) (r : Th × List Nat) : Option D := if r.1.lo < r.1.hi then some (natD i) else none
theorem moves_in_ok {t : Th} {N : Nat} (h : t.size ≤ N) (hN : N ≤ 100000) (hk : t.ok) : callF FF (k + N + 2) 15 [t.d] S = .ok (.lst (enumFM isMv 0 (t.rows 0))) S := by
  rw [call_eq F_15 rfl]
  have e := numbered_ok (k := k) (S := S) h hN hk
  have hc : collect (turnF (callF FF (k + N + 1)) (.tup [(.name 1), (.tup [(.name 2), (.name 3)])]) [1, 2, 3] (.some (.cmp .lt (.idx (.var 2) (.con (.int 2))) (.idx (.var 2) (.con (.int 3))))) (.var 1) [some t.d, none, none, none]) (enumFrom 0 ((t.rows 0).map rowP)) S = .ok (enumFM isMv 0 (t.rows 0)) S := by
    refine collect_enum fun i r _ => ?_
    have hb : bindP (.tup [(.name 1), (.tup [(.name 2), (.name 3)])]) (.tup [.int (i : Nat), rowP r]) (wipeE [some t.d, none, none, none] [1, 2, 3]) = some [some t.d, some (.int i), some r.1.d, some (.tup (r.2.map natD))] := by
      simp [bindP, bindPs, rowP, wipeE]
    rw [turn_run hb]
    simp [idx_lo, idx_hi, isMv]
    split <;> rfl
  have hz : (enumFM isMv 0 (t.rows 0)).length ≤ LINE := by
    have key : ∀ (i : Nat) (l : List (Th × List Nat)), (enumFM isMv i l).length ≤ l.length := by
      intro i l
      induction l generalizing i with
      | nil => exact Nat.le_refl _
      | cons r rs ih =>
        rw [enumFM, List.length_append, List.length_cons]
        have := ih (i + 1)
        have : (isMv i r).toList.length ≤ 1 := by unfold isMv; split <;> simp
        omega
    have := key 0 (t.rows 0)
    rw [Th.rows_len] at this
    unfold LINE; omega
  simp [f15, e, hc]
  rw [show szR _ _ _ = _ from if_pos hz]
  simp
  rw [finR_rt, List.take_length]
  have key : ∀ (i : Nat) (l : List (Th × List Nat)), belows S.length (enumFM isMv i l) = true := by
    intro i l
    induction l generalizing i with
    | nil => rfl
    | cons r rs ih =>
      rw [enumFM]
      unfold isMv
      split
      · show (true && belows S.length (enumFM isMv (i + 1) rs)) = true
        rw [ih] <;> rfl
      · exact ih _
  exact key 0 _
mutual
theorem Th.mv_len : ∀ (t : Th) (b i : Nat), (enumFM isMv i (t.rows b)).length = t.moves
  | .raw h lo hi, b, i => by
    rw [Th.rows, enumFM, enumFM, Th.moves, isMv, mvn]
    simp only [Th.lo, Th.hi]
    by_cases hh : lo < hi <;> simp [hh]
  | .made h lo hi s w o ps, b, i => by
    rw [Th.rows, enumFM, List.length_append, Th.mvs_len ps (b + 1) (i + 1), Th.moves, isMv, mvn]
    simp only [Th.lo, Th.hi]
    by_cases hh : lo < hi <;> simp [hh]
theorem Th.mvs_len : ∀ (ts : List Th) (b i : Nat), (enumFM isMv i (Th.rowss ts b)).length = Th.movess ts
  | [], _, _ => rfl
  | t :: ts, b, i => by
    have app : ∀ (a b : List (Th × List Nat)) (i : Nat), enumFM isMv i (a ++ b) = enumFM isMv i a ++ enumFM isMv (i + a.length) b := by
      intro a
      induction a with
      | nil => intro b i; simp [enumFM]
      | cons r rs ih =>
        intro b i
        rw [List.cons_append, enumFM, enumFM, ih, List.append_assoc, List.length_cons]
        congr 3
        omega
    rw [Th.rowss, app, List.length_append, Th.mv_len t, Th.mvs_len ts, Th.movess]
end
/-- what the program asks of a good -/
structure Good (t : Th) : Prop where
  ok : t.ok
  mv : t.moves ≤ 3
  mkd : t.mades ≤ 4
  sz : t.size ≤ 10
  made : t.isMade = true
  top : 1 ≤ t.lo
theorem need_good_ok {t : Th} (h : Good t) : callF FF (k + 13) 22 [t.d] S = .ok t.d S := by
  rw [call_eq F_22 rfl]
  have e1 := fault_in_ok (k := k + 8) (S := S) h.ok h.sz h.mkd
  have e2 := moves_in_ok (k := k) (N := 10) (S := S) h.sz (by decide) h.ok
  have e3 := numbered_ok (k := k + 1) (N := 10) (S := S) h.sz (by decide) h.ok
  have e4 := Th.mv_len t 0 0
  have c1 : cmpF .ne (.tup []) (.tup []) S = .ok (.bl false) S := rfl
  have c2 : cmpF .eq (.str sMade) (.str [114, 97, 119]) S = .ok (.bl false) S := rfl
  have hmv : ¬ (3 < ((enumFM isMv 0 (t.rows 0)).length : Int)) := by rw [e4]; have := h.mv; omega
  have hc : collect (turnF (callF FF (k + 12)) (.tup [(.name 2), (.name 3)]) [2, 3] .none (.cmp .eq (.idx (.var 2) (.con (.int 2))) (.con (.int 0))) [some t.d, some (.tup []), none, none]) ((t.rows 0).map rowP) S = .ok ((t.rows 0).map fun r => .bl (r.1.lo == 0)) S := by
    refine collect_maps fun r _ => ?_
    have hb : bindP (.tup [(.name 2), (.name 3)]) (rowP r) (wipeE [some t.d, some (.tup []), none, none] [2, 3]) = some [some t.d, some (.tup []), some r.1.d, some (.tup (r.2.map natD))] := by
      simp [bindP, bindPs, rowP, wipeE]
    rw [turn_run hb]
    simp [idx_lo]
  have hall : biF .all [.lst ((t.rows 0).map fun r => .bl (r.1.lo == 0))] S = .ok (.bl false) S := by
    show (match allB ((t.rows 0).map fun r => D.bl (r.1.lo == 0)) with | some b => R.ok (D.bl b) S | none => .no) = _
    have tot : ∀ l : List (Th × List Nat), ∃ b, allB (l.map fun r => .bl (r.1.lo == 0)) = some b := by
      intro l
      induction l with
      | nil => exact ⟨true, rfl⟩
      | cons r rs ih =>
        obtain ⟨b, hb⟩ := ih
        exact ⟨(r.1.lo == 0) && b, by rw [List.map_cons]; show (allB _).map _ = _; rw [hb]; rfl⟩
    cases t with
    | raw hh lo hi => exact absurd h.made (by simp [Th.isMade])
    | made hh lo hi s w o ps =>
      rw [Th.rows, List.map_cons]
      obtain ⟨b, hb⟩ := tot (Th.rowss ps (0 + 1))
      have hlo : (lo == 0) = false := by
        have := h.top
        simp only [Th.lo] at this
        exact beq_eq_false_iff_ne.mpr (by omega)
      show (match (allB ((Th.rowss ps (0 + 1)).map fun r => .bl (r.1.lo == 0))).map (fun x => (lo == 0) && x) with | some b => R.ok (D.bl b) S | none => .no) = _
      rw [hb, hlo]
      rfl
  have hz : ((t.rows 0).map fun r => D.bl (r.1.lo == 0)).length ≤ LINE := by
    rw [List.length_map, Th.rows_len]
    have := h.sz
    unfold LINE; omega
  simp only [Nat.add_assoc, Nat.reduceAdd] at e1 e2 e3
  simp [f22, e1, c1, idx_kind, h.made, c2, e2, hmv, e3, hc]
  rw [show szR _ _ _ = _ from if_pos hz]
  simp [hall]
  rw [finR_rt (sh_below (Th.sh_d h.ok)), List.take_length]
end
end Pf

set_option linter.all false
set_option Elab.async false
set_option maxRecDepth 100000
set_option maxHeartbeats 1000000
set_option autoImplicit false
/-! PfB3: lowest terms -/
namespace Pf
theorem can_scale {m p q : Int} (hm : 0 < m) : can (m * p) (m * q) = can p q := by
  unfold can
  have hg : ((m * p).gcd (m * q) : Int) = m * (p.gcd q : Int) := by
    rw [Int.gcd_mul_left]
    push_cast
    rw [show ((m.natAbs : Nat) : Int) = m by omega]
  rw [hg, Int.mul_ediv_mul_of_pos _ _ hm, Int.mul_ediv_mul_of_pos _ _ hm]
theorem can_eq {p q r s : Int} (hq : 0 < q) (hs : 0 < s) (h : p * s = r * q) : can p q = can r s := by
  rw [← can_scale (m := s) (p := p) (q := q) hs, ← can_scale (m := q) (p := r) (q := s) hq]
  rw [Int.mul_comm s p, Int.mul_comm s q, Int.mul_comm q r, h]
theorem can_1 {p q : Int} : (can p q).1 * (p.gcd q : Int) = p := Int.ediv_mul_cancel (Int.gcd_dvd_left ..)
theorem can_2 {p q : Int} : (can p q).2 * (p.gcd q : Int) = q := Int.ediv_mul_cancel (Int.gcd_dvd_right ..)
theorem can_gcd {p q : Int} (hq : 0 < q) : Int.gcd (can p q).1 (can p q).2 = 1 := Int.gcd_ediv_gcd_ediv_gcd (gcd_pos hq)
theorem can_pos {p q : Int} (hq : 0 < q) : 0 < (can p q).2 := by
  have h := can_2 (p := p) (q := q)
  have g := gcd_pos (p := p) hq
  rcases Int.lt_trichotomy (can p q).2 0 with h1 | h1 | h1
  · have : (can p q).2 * (p.gcd q : Int) < 0 := Int.mul_neg_of_neg_of_pos h1 (by omega)
    omega
  · rw [h1] at h; omega
  · exact h1
theorem can_le {p q : Int} (hq : 0 < q) : (can p q).2 ≤ q := Int.ediv_le_self _ (Int.le_of_lt hq)
theorem can_abs {p q : Int} : (can p q).1.natAbs ≤ p.natAbs := Int.natAbs_ediv_le_natAbs ..
theorem can_cross {p q : Int} : (can p q).1 * q = p * (can p q).2 := by
  have h1 := can_1 (p := p) (q := q)
  have h2 := can_2 (p := p) (q := q)
  calc (can p q).1 * q = (can p q).1 * ((can p q).2 * (p.gcd q : Int)) := by rw [h2]
    _ = ((can p q).1 * (p.gcd q : Int)) * (can p q).2 := by rw [Int.mul_assoc, Int.mul_comm (p.gcd q : Int), ← Int.mul_assoc]
    _ = p * (can p q).2 := by rw [h1]
theorem can_self {p q : Int} (h : Int.gcd p q = 1) : can p q = (p, q) := by
  unfold can
  rw [h]
  simp
theorem can_can {p q : Int} (hq : 0 < q) : can (can p q).1 (can p q).2 = can p q := can_self (can_gcd hq)
/-- a sum with a fraction in lowest terms -/
theorem can_add {p q r s : Int} (hq : 0 < q) (hs : 0 < s) : can ((can p q).1 * s + r * (can p q).2) ((can p q).2 * s) = can (p * s + r * q) (q * s) := by
  refine can_eq (Int.mul_pos (can_pos hq) hs) (Int.mul_pos hq hs) ?_
  have h := can_cross (p := p) (q := q)
  generalize (can p q).1 = a at h ⊢
  generalize (can p q).2 = b at h ⊢
  have e1 : (a * s + r * b) * (q * s) = (a * q) * (s * s) + r * b * (q * s) := by rw [Int.add_mul]; congr 1; simp [Int.mul_comm, Int.mul_assoc, Int.mul_left_comm]
  have e2 : (p * s + r * q) * (b * s) = (p * b) * (s * s) + r * b * (q * s) := by rw [Int.add_mul]; congr 1 <;> simp [Int.mul_comm, Int.mul_assoc, Int.mul_left_comm]
  rw [e1, e2, h]
section
variable {k : Nat} {S : Store}
theorem law_least_ok {p q : Int} (hp : Sm p) (hq : 0 < q) (hb : q < 2 ^ 1000) : callF FF (k + 1) 31 [.int p, .int q] S = .ok (fr (can p q)) S := by
  have loop : ∀ (n : Nat) (a b : Nat) (v0 v1 v4 : Option D), b < n → whlE (callF FF k) (.cmp .ne (.var 3) (.con (.int 0))) (.seq (.asg (.tup [(.name 2), (.name 3)]) (.tup (.cons (.var 3) (.cons (.bin .mod (.bi .int (.cons (.var 2) .nil)) (.var 3)) .nil))))
    .skip) n [v0, v1, some (.int a), some (.int b), v4] S = .ok (.nx [v0, v1, some (.int (Nat.gcd a b)), some (.int 0), v4]) S := by
    intro n
    induction n with
    | zero => intro a b _ _ _ h; omega
    | succ n ih =>
      intro a b v0 v1 v4 h
      rw [whlE_succ]
      by_cases hb : b = 0
      · subst hb
        simp
      · have hp : 0 < b := by omega
        have hz : (b : Int) ≠ 0 := by omega
        simp [hb, opF_modI hz, fmod_nat]
        have := ih b (a % b) v0 v1 v4 (by have := Nat.mod_lt a hp; omega)
        simp at this
        rw [this, Nat.gcd_comm b, ← Nat.gcd_rec, Nat.gcd_comm]
  rw [call_eq F_31 rfl]
  have ha : (if p < 0 then -p else p) = (p.natAbs : Int) := by split <;> omega
  have ha2 : (if q < 0 then -q else q) = (q.natAbs : Int) := by split <;> omega
  have hqn : q.natAbs < 2 ^ 1000 := by omega
  have h2 := loop WF p.natAbs q.natAbs (some (.int p)) (some (.int q)) none (by have := lt_WF hqn; omega)
  have g0 := gcd_pos (p := p) hq
  have g1 : ((Int.gcd p q : Nat) : Int) ≠ 0 := by omega
  have g2 : (((Int.gcd p q : Nat) : Int)).natAbs < 2 ^ 8999 := by
    have := gcd_le (p := p) hq
    exact lt_8999 (by omega)
  have m1 : opF .mul (.int 1) (.int p) S = .ok (.int (1 * p)) S := opF_mulI (mulOk_l (by decide))
  have m2 : opF .mul (.int 1) (.int q) S = .ok (.int (1 * q)) S := opF_mulI (mulOk_l (by decide))
  have hgcd : Nat.gcd p.natAbs q.natAbs = Int.gcd p q := rfl
  rw [hgcd] at h2
  simp [f31, ha, ha2] at h2 ⊢
  rw [h2]
  simp [hq, m1, m2, opF_fdivI g1 g2]
  rw [finR_rt rfl, List.take_length, fdiv_nat, fdiv_nat]
  rfl
/-- a price that a thing may have -/
structure PriceOk (t : Th) (f : Int × Int) : Prop where
  g : Int.gcd f.1 f.2 = 1
  q0 : 0 < f.2
  q1 : f.2 ≤ 100
  lo : t.lo * f.2 ≤ f.1
  hi : f.1 ≤ t.hi * f.2
theorem price_can {t : Th} {of part : Int} (h1 : 0 < of) (h2 : of ≤ 100) (h3 : 0 ≤ part) (h4 : part ≤ (t.hi - t.lo) * of) : PriceOk t (can (t.lo * of + part) of) := by
  have hc := can_cross (p := t.lo * of + part) (q := of)
  have hp := can_pos (p := t.lo * of + part) h1
  have hl := can_le (p := t.lo * of + part) h1
  refine ⟨can_gcd h1, hp, by omega, ?_, ?_⟩
  · generalize (can (t.lo * of + part) of).1 = a at *
    generalize (can (t.lo * of + part) of).2 = b at *
    have : (t.lo * b) * of ≤ a * of := by
      rw [hc, Int.add_mul]
      have e : t.lo * b * of = t.lo * of * b := by simp [Int.mul_comm, Int.mul_assoc, Int.mul_left_comm]
      have := Int.mul_nonneg h3 (Int.le_of_lt hp)
      omega
    exact Int.le_of_mul_le_mul_right this h1
  · generalize (can (t.lo * of + part) of).1 = a at *
    generalize (can (t.lo * of + part) of).2 = b at *
    have : a * of ≤ (t.hi * b) * of := by
      rw [hc]
      have e1 : t.lo * of + part ≤ t.hi * of := by rw [Int.sub_mul] at h4; omega
      have e : t.hi * b * of = t.hi * of * b := by simp [Int.mul_comm, Int.mul_assoc, Int.mul_left_comm]
      rw [e]
      exact Int.mul_le_mul_of_nonneg_right e1 (Int.le_of_lt hp)
    exact Int.le_of_mul_le_mul_right this h1
end
end Pf

set_option linter.all false
set_option Elab.async false
set_option maxRecDepth 100000
set_option maxHeartbeats 1000000
set_option autoImplicit false
/-! PfB4: the law's prices -/
namespace Pf
def st1 (S : Store) (n : Nat) (o X : Ob) : Store := S.set n o ++ [X]
section
variable {S : Store} {n B k : Nat} {o o' X X' : Ob}
theorem st1_n (h : n < S.length) : (st1 S n o X)[n]? = some o := by
  unfold st1
  rw [List.getElem?_append_left (by rw [List.length_set]; exact h), List.getElem?_set_self h]
theorem st1_set (h : n < S.length) : (st1 S n o X).set n o' = st1 S n o' X := by
  unfold st1
  rw [List.set_append_left _ _ (by rw [List.length_set]; exact h), List.set_set]
theorem st1_x : (st1 S n o X)[S.length]? = some X := by
  unfold st1
  rw [List.getElem?_append_right (by rw [List.length_set]; exact Nat.le_refl _), List.length_set]
  simp
theorem st1_sx : (st1 S n o X).set S.length X' = st1 S n o X' := by
  unfold st1
  rw [List.set_append_right _ _ (by rw [List.length_set]; exact Nat.le_refl _), List.length_set]
  simp
theorem st1_take : (st1 S n o X).take S.length = S.set n o := by
  unfold st1
  rw [← List.length_set (i := n) (a := o) (as := S), List.take_left]
/-- prices row by row -/
def PricesOk : List (Th × List Nat) → List (Int × Int) → Prop
  | [], [] => True
  | r :: rs, f :: fs => PriceOk r.1 f ∧ PricesOk rs fs
  | _, _ => False
theorem PricesOk.len : ∀ {rs : List (Th × List Nat)} {fs : List (Int × Int)}, PricesOk rs fs → rs.length = fs.length
  | [], [], _ => rfl
  | r :: rs, f :: fs, h => by rw [List.length_cons, List.length_cons, PricesOk.len h.2]
  | [], _ :: _, h => h.elim
  | _ :: _, [], h => h.elim
theorem PricesOk.get : ∀ {rs : List (Th × List Nat)} {fs : List (Int × Int)} {i : Nat} {r : Th × List Nat}, PricesOk rs fs → rs[i]? = some r → ∃ f, fs[i]? = some f ∧ PriceOk r.1 f
  | r :: rs, f :: fs, 0, r', h, e => by simp at e; subst e; exact ⟨f, rfl, h.1⟩
  | r :: rs, f :: fs, i + 1, r', h, e => by
    obtain ⟨g, h1, h2⟩ := PricesOk.get (i := i) h.2 (by simpa using e)
    exact ⟨g, by simpa using h1, h2⟩
  | [], [], _, _, _, e => by simp at e
  | [], _ :: _, _, _, h, _ => h.elim
  | _ :: _, [], _, _, h, _ => h.elim
abbrev body41 : St := (.seq (.asg (.tup [(.name 5), (.name 6)]) (.tup (.cons (.idx (.var 3) (.con (.int 2))) (.cons (.idx (.var 3) (.con (.int 3))) .nil))))
    (.seq (.asg (.name 7) (.call 40 (.cons (.var 0) (.cons (.lst false (.cons (.con (.int 1)) (.cons (.con (.int 1)) (.cons (.con (.int 2)) (.cons (.con (.int 3)) (.cons (.con (.int 7)) (.cons (.con (.int 100)) .nil))))))) .nil))))
    (.seq (.asg (.name 8) (.call 40 (.cons (.var 0) (.cons (.lst false (.cons (.con (.int 0)) (.cons (.bin .mul (.bin .sub (.var 6) (.var 5)) (.var 7)) (.cons (.call 39 (.cons (.var 0) (.cons (.bin .add (.bin .mul (.bin .sub (.var 6) (.var 5)) (.var 7)) (.con (.int 1))) .nil))) .nil)))) .nil))))
    (.seq (.ex (.mth .append (.var 2) (.cons (.call 31 (.cons (.bin .add (.bin .mul (.var 5) (.var 7)) (.var 8)) (.cons (.var 7) .nil))) .nil)))
    .skip))))
theorem Th.bounds {t : Th} (h : t.ok) : 0 ≤ t.lo ∧ t.lo ≤ t.hi ∧ t.hi ≤ 1000000 := by
  cases t with
  | raw hh lo hi => simpa only [Th.ok, Th.lo, Th.hi] using h
  | made hh lo hi s w o ps => exact (show (0 ≤ lo ∧ lo ≤ hi ∧ hi ≤ 1000000) ∧ (0 ≤ s ∧ s ≤ 100) ∧ (1 ≤ ps.length ∧ ps.length ≤ 4) ∧ Th.oks ps by simpa only [Th.ok] using h).1
theorem bodyF_pair {cl : Nat → List D → M D} {i j : Nat} {b : St} {x y : D} {ρ : Ev} {S : Store} (h : i < ρ.length) (h2 : j < ρ.length) : bodyF cl (.tup [.name i, .name j]) b (.tup [x, y]) ρ S = exec cl b ((ρ.set i (some x)).set j (some y)) S := by
  unfold bodyF
  have e : bindP (.tup [.name i, .name j]) (.tup [x, y]) ρ = some ((ρ.set i (some x)).set j (some y)) := by
    simp [bindP, bindPs, h, h2]
  rw [e]
theorem prices_loop (hn : n < S.length) {v1 : Option D} : ∀ (rs : List (Th × List Nat)) (B : Nat) (o : Ob) (fs : List (Int × Int)) (w3 w4 w5 w6 w7 w8 : Option D), RngO B o → B + 3 * rs.length < 2 ^ 58 → (∀ r ∈ rs, r.1.ok) → fs.length + rs.length ≤ 1000000 →
    ∃ gs o' u3 u4 u5 u6 u7 u8, forF (bodyF (callF FF (k + 2)) (.tup [(.name 3), (.name 4)]) body41) (rs.map rowL) [some (.ref n), v1, some (.ref S.length), w3, w4, w5, w6, w7, w8] (st1 S n o (.lst (fs.map fr))) =
      .ok (.nx [some (.ref n), v1, some (.ref S.length), u3, u4, u5, u6, u7, u8]) (st1 S n o' (.lst ((fs ++ gs).map fr))) ∧ RngO (B + 3 * rs.length) o' ∧ PricesOk rs gs := by
  intro rs
  induction rs with
  | nil =>
    intro B o fs w3 w4 w5 w6 w7 w8 hr _ _ _
    exact ⟨[], o, w3, w4, w5, w6, w7, w8, by simp, by simpa using hr, trivial⟩
  | cons r rs ih =>
    intro B o fs w3 w4 w5 w6 w7 w8 hr hB hk hl
    simp only [List.length_cons] at hB hl
    obtain ⟨b1, b2, b3⟩ := Th.bounds (hk r List.mem_cons_self)
    obtain ⟨y, o1, e1, hy, g1⟩ := of1 (k := k) (S := st1 S n o (.lst (fs.map fr))) ⟨o, st1_n hn, hr⟩ (xs := [.int 1, .int 1, .int 2, .int 3, .int 7, .int 100]) (by omega) (by simp) (show 6 < 2 ^ 30 by decide) rfl
    rw [st1_set hn] at e1
    obtain ⟨q, rfl, q0, q1⟩ : ∃ q, y = .int q ∧ 0 < q ∧ q ≤ 100 := by
      simp at hy
      rcases hy with rfl | rfl | rfl | rfl | rfl
      all_goals exact ⟨_, rfl, by omega, by omega⟩
    have hw0 : 0 ≤ (r.1.hi - r.1.lo) * q := Int.mul_nonneg (by omega) (by omega)
    have hw1 : (r.1.hi - r.1.lo) * q ≤ 1000000 * 100 := Int.mul_le_mul (by omega) q1 (by omega) (by omega)
    obtain ⟨d, o2, e2, r1, r2, g2⟩ := draw_ok (k := k + 1) (S := st1 S n o1 (.lst (fs.map fr))) ⟨o1, st1_n hn, g1⟩ (limit := (r.1.hi - r.1.lo) * q + 1) (by omega) (by omega) (by omega)
    rw [st1_set hn] at e2
    obtain ⟨z, o3, e3, hz, g3⟩ := of1 (k := k) (S := st1 S n o2 (.lst (fs.map fr))) ⟨o2, st1_n hn, g2⟩ (xs := [.int 0, .int ((r.1.hi - r.1.lo) * q), .int d]) (by omega) (by simp) (show 3 < 2 ^ 30 by decide) (by simp [shs, sh]; omega)
    rw [st1_set hn] at e3
    obtain ⟨p, rfl, p0, p1⟩ : ∃ p, z = .int p ∧ 0 ≤ p ∧ p ≤ (r.1.hi - r.1.lo) * q := by
      simp at hz
      rcases hz with rfl | rfl | rfl
      all_goals exact ⟨_, rfl, by omega, by omega⟩
    have hv0 : 0 ≤ r.1.lo * q := Int.mul_nonneg b1 (by omega)
    have hv1 : r.1.lo * q ≤ 1000000 * 100 := Int.mul_le_mul (by omega) q1 (by omega) (by omega)
    have hsm : Sm (r.1.lo * q + p) := by
      show (r.1.lo * q + p).natAbs < 2 ^ 1000
      exact Nat.lt_of_lt_of_le (m := 2 ^ 100) (by omega) (Nat.pow_le_pow_right (by decide) (by decide))
    have hq2 : q < 2 ^ 1000 := Int.lt_of_lt_of_le (b := 101) (by omega) (by decide)
    have e4 := law_least_ok (k := k + 1) (S := st1 S n o3 (.lst (fs.map fr))) hsm q0 hq2
    have happ := mth_append (S := st1 S n o3 (.lst (fs.map fr))) (x := fr (can (r.1.lo * q + p) q)) st1_x (by rw [List.length_map]; unfold LINE; omega) rfl
    rw [st1_sx] at happ
    have happ2 : fs.map fr ++ [fr (can (r.1.lo * q + p) q)] = (fs ++ [can (r.1.lo * q + p) q]).map fr := by simp
    rw [happ2] at happ
    have hrc := recv_app (m := .append) (S := st1 S n o3 (.lst (fs.map fr))) st1_x
    obtain ⟨gs, o4, u3, u4, u5, u6, u7, u8, e5, g5, hp⟩ := ih (B + 1 + 1 + 1) o3 (fs ++ [can (r.1.lo * q + p) q]) (some r.1.d) (some (.lst (r.2.map natD))) (some (.int r.1.lo)) (some (.int r.1.hi)) (some (.int q)) (some (.int p)) g3 (by omega) (fun r' hr' => hk r' (List.mem_cons_of_mem _ hr')) (by rw [List.length_append, List.length_singleton]; omega)
    refine ⟨can (r.1.lo * q + p) q :: gs, o4, u3, u4, u5, u6, u7, u8, ?_, g5.le (by rw [List.length_cons]; omega), price_can q0 q1 p0 p1, hp⟩
    have m1 : ∀ S, opF .mul (.int (r.1.hi - r.1.lo)) (.int q) S = .ok (.int ((r.1.hi - r.1.lo) * q)) S := fun S => opF_mulI (mulOk_r (by omega))
    have m2 : ∀ S, opF .mul (.int r.1.lo) (.int q) S = .ok (.int (r.1.lo * q)) S := fun S => opF_mulI (mulOk_r (by omega))
    rw [List.map_cons, forF_cons, rowL, bodyF_pair (by simp) (by simp)]
    simp only [Nat.add_assoc, Nat.reduceAdd] at e1 e2 e3 e4
    simp [body41, idx_lo, idx_hi, e1, e2, e3, e4, m1, m2, hrc, happ]
    simp at e5
    rw [e5]
theorem prices_ok {t : Th} (h : Rng n B S) (hB : B < 2 ^ 57) (hk : t.ok) (hs : t.size ≤ 10) : ∃ fs o', callF FF (k + 11) 41 [.ref n, t.d] S = .ok (.tup (fs.map fr)) (S.set n o') ∧ RngO (B + 30) o' ∧ PricesOk (t.rows 0) fs := by
  obtain ⟨ob, hob, hr⟩ := h
  have hn := lt_of_get hob
  have hlen : (t.rows 0).length ≤ 10 := by rw [Th.rows_len]; exact hs
  obtain ⟨gs, o', u3, u4, u5, u6, u7, u8, e, g, hp⟩ := prices_loop (k := k + 8) hn (v1 := some t.d) (t.rows 0) B ob [] none none none none none none hr (by omega) (Th.rows_ok hk) (by simp; omega)
  refine ⟨gs, o', ?_, g.le (by omega), hp⟩
  rw [call_eq F_41 rfl]
  have e1 := law_rows_ok 10 t k 0 (S ++ [.lst []]) hs (by decide) hk
  have est : st1 S n ob (.lst ([].map fr)) = S ++ [.lst []] := by unfold st1; rw [set_get hob]; rfl
  rw [est] at e
  simp only [Nat.add_assoc, Nat.reduceAdd, List.nil_append] at e e1
  have ht := biF_tupR (S := st1 S n o' (.lst (gs.map fr))) st1_x
  simp [f41] at e1 ⊢
  simp [e1]
  rw [e]
  simp [ht]
  rw [finR_rt, st1_take]
  exact belows_of fun x hx => by
    obtain ⟨f, _, rfl⟩ := List.mem_map.mp hx
    rfl
end
end Pf

set_option linter.all false
set_option Elab.async false
set_option maxRecDepth 100000
set_option maxHeartbeats 1000000
set_option autoImplicit false
/-! PfB5: prices judged -/
namespace Pf
section
variable {S : Store} {k : Nat}
theorem sm_of {i : Int} (h : i.natAbs < 2 ^ 300) : Sm i := Nat.lt_of_lt_of_le h (Nat.pow_le_pow_right (by decide) (by decide))
theorem is_fraction_ok {f : Int × Int} (hg : Int.gcd f.1 f.2 = 1) (hq : 0 < f.2) (hb : f.2 < 2 ^ 1000) : callF FF (k + 2) 12 [fr f] S = .ok (.bl true) S := by
  rw [call_eq F_12 rfl]
  have i1 : isiF .tuple (fr f) S = .ok (.bl true) S := rfl
  have hc : collect (turnF (callF FF (k + 1)) (.name 1) [1] .none (.and (.isi (.var 1) .int) (.not (.isi (.var 1) .bool))) [some (fr f), none]) ([f.1, f.2].map D.int) S = .ok ([f.1, f.2].map fun _ => D.bl true) S := by
    refine collect_maps fun i _ => ?_
    have hb : bindP (.name 1) (.int i) (wipeE [some (fr f), none] [1]) = some [some (fr f), some (.int i)] := by
      simp [bindP, wipeE]
    have j1 : isiF .int (.int i) S = .ok (.bl true) S := rfl
    have j2 : isiF .bool (.int i) S = .ok (.bl false) S := rfl
    rw [turn_run hb]
    simp [j1, j2]
  have hall : biF .all [.lst [.bl true, .bl true]] S = .ok (.bl true) S := rfl
  have e1 := divisor_int (k := k) (S := S) (a := f.1) (Int.le_of_lt hq) hb
  rw [hg] at e1
  unfold fr at hc ⊢
  simp only [List.map_cons, List.map_nil] at hc
  have i2 : isiF .tuple (.tup [.int f.1, .int f.2]) S = .ok (.bl true) S := rfl
  simp [f12, i2, hc, hall, hq, e1]
  rw [finR_rt rfl, List.take_length]
theorem PriceOk.num {t : Th} {f : Int × Int} (h : PriceOk t f) (hk : t.ok) : 0 ≤ f.1 ∧ f.1 ≤ 100000000 := by
  obtain ⟨b1, b2, b3⟩ := Th.bounds hk
  have h1 := h.lo
  have h2 := h.hi
  have h3 := h.q0
  have h4 := h.q1
  have e1 : 0 ≤ t.lo * f.2 := Int.mul_nonneg b1 (by omega)
  have e2 : t.hi * f.2 ≤ 1000000 * 100 := Int.mul_le_mul b3 h4 (by omega) (by omega)
  omega
theorem PriceOk.sm {t : Th} {f : Int × Int} (h : PriceOk t f) (hk : t.ok) : Sm f.1 ∧ Sm f.2 := by
  have h1 := h.num hk
  have h3 := h.q0
  have h4 := h.q1
  exact ⟨sm_of (by omega), sm_of (by omega)⟩
theorem is_price_ok {t : Th} {f : Int × Int} (hk : t.ok) (h : PriceOk t f) : callF FF (k + 3) 13 [t.d, fr f] S = .ok (.bl true) S := by
  rw [call_eq F_13 rfl]
  obtain ⟨b1, b2, b3⟩ := Th.bounds hk
  obtain ⟨s1, s2⟩ := h.sm hk
  have hq2 : f.2 < 2 ^ 1000 := Int.lt_of_le_of_lt (b := 100) h.q1 (by decide)
  have e1 := is_fraction_ok (k := k) (S := S) h.g h.q0 hq2
  have e2 := is_below_ok (k := k + 1) (S := S) (f := f) (g := (t.lo, 1)) s1 s2 (sm_of (by simp only; omega)) (sm_of (show 1 < 2 ^ 300 by decide))
  have e3 := is_below_ok (k := k + 1) (S := S) (f := (t.hi, 1)) (g := f) (sm_of (by simp only; omega)) (sm_of (show 1 < 2 ^ 300 by decide)) s1 s2
  have c1 : ¬ (f.1 * 1 < t.lo * f.2) := by have := h.lo; omega
  have c2 : ¬ (t.hi * f.2 < f.1 * 1) := by have := h.hi; omega
  simp only [c1, c2, decide_false] at e2 e3
  unfold fr at e1 e2 e3 ⊢
  simp [f13, e1, idx_lo, idx_hi, e2, e3]
  rw [finR_rt rfl, List.take_length]
theorem idx_row {fs : List (Int × Int)} {i : Nat} {f : Int × Int} (h : fs[i]? = some f) : idxF (.tup (fs.map fr)) (.int i) S = .ok (fr f) S := idxF_t (by rw [List.getElem?_map, h]; rfl)
theorem bodyF_enum {cl : Nat → List D → M D} {a i j : Nat} {b : St} {x y z : D} {ρ : Ev} {S : Store} (h0 : a < ρ.length) (h : i < ρ.length) (h2 : j < ρ.length) :
    bodyF cl (.tup [.name a, .tup [.name i, .name j]]) b (.tup [z, .tup [x, y]]) ρ S = exec cl b (((ρ.set a (some z)).set i (some x)).set j (some y)) S := by
  unfold bodyF
  have e : bindP (.tup [.name a, .tup [.name i, .name j]]) (.tup [z, .tup [x, y]]) ρ = some (((ρ.set a (some z)).set i (some x)).set j (some y)) := by
    simp [bindP, bindPs, h, h2, h0]
  rw [e]
abbrev body14 : St := (.seq (.ifs (.not (.call 13 (.cons (.var 4) (.cons (.idx (.var 1) (.var 3)) .nil))))
    (.seq .stop
    .skip)
    .skip)
    .skip)
theorem pfg_loop {v0 v2 : Option D} {fs : List (Int × Int)} : ∀ (rs : List (Th × List Nat)) (i : Nat) (w3 w4 w5 : Option D), (∀ r ∈ rs, r.1.ok) → PricesOk rs (fs.drop i) →
    ∃ u3 u4 u5, forF (bodyF (callF FF (k + 3)) (.tup [(.name 3), (.tup [(.name 4), (.name 5)])]) body14) (enumFrom i (rs.map rowP)) [v0, some (.tup (fs.map fr)), v2, w3, w4, w5] S = .ok (.nx [v0, some (.tup (fs.map fr)), v2, u3, u4, u5]) S := by
  intro rs
  induction rs with
  | nil => intro i w3 w4 w5 _ _; exact ⟨w3, w4, w5, rfl⟩
  | cons r rs ih =>
    intro i w3 w4 w5 hk hp
    cases hd : fs.drop i with
    | nil => rw [hd] at hp; exact hp.elim
    | cons f gs =>
      rw [hd] at hp
      have hf : fs[i]? = some f := by
        have := List.getElem?_drop (xs := fs) (i := i) (j := 0)
        rw [hd] at this
        simpa using this.symm
      have hgs : gs = fs.drop (i + 1) := by
        have := congrArg List.tail hd
        simpa [List.tail_drop] using this.symm
      rw [hgs] at hp
      obtain ⟨u3, u4, u5, e⟩ := ih (i + 1) (some (.int i)) (some r.1.d) (some (.tup (r.2.map natD))) (fun r' hr' => hk r' (List.mem_cons_of_mem _ hr')) hp.2
      refine ⟨u3, u4, u5, ?_⟩
      rw [List.map_cons, enumFrom, forF_cons, rowP, bodyF_enum (by simp) (by simp) (by simp)]
      simp [body14, idx_row hf, is_price_ok (k := k) (hk r List.mem_cons_self) hp.1]
      rw [e]
theorem prices_for_good_ok {t : Th} {fs : List (Int × Int)} (hk : t.ok) (hs : t.size ≤ 10) (hp : PricesOk (t.rows 0) fs) : callF FF (k + 12) 14 [t.d, .tup (fs.map fr)] S = .ok (.tup (fs.map fr)) S := by
  rw [call_eq F_14 rfl]
  have e1 := numbered_ok (k := k) (N := 10) (S := S) hs (by decide) hk
  have i1 : ∀ l, isiF .tuple (.tup l) S = .ok (.bl true) S := fun l => rfl
  have hl := hp.len
  obtain ⟨u3, u4, u5, e2⟩ := pfg_loop (k := k + 8) (S := S) (v0 := some t.d) (v2 := some (.lst ((t.rows 0).map rowP))) (fs := fs) (t.rows 0) 0 none none none (Th.rows_ok hk) (by simpa using hp)
  simp only [Nat.add_assoc, Nat.reduceAdd] at e1 e2
  simp [f14, e1, i1, hl]
  rw [e2]
  simp
  rw [finR_rt, List.take_length]
  exact belows_of fun x hx => by
    obtain ⟨f, _, rfl⟩ := List.mem_map.mp hx
    rfl
theorem need_priced_ok {t : Th} {fs : List (Int × Int)} (h : Good t) (hp : PricesOk (t.rows 0) fs) : callF FF (k + 14) 23 [t.d, .tup (fs.map fr)] S = .ok .non S := by
  rw [call_eq F_23 rfl]
  have e1 := need_good_ok (k := k) (S := S) h
  have e2 := prices_for_good_ok (k := k + 1) (S := S) h.ok h.sz hp
  simp only [Nat.add_assoc, Nat.reduceAdd] at e1 e2
  simp [f23, e1, e2]
  rw [finR_nx, List.take_length]
end
end Pf

set_option linter.all false
set_option Elab.async false
set_option maxRecDepth 100000
set_option maxHeartbeats 1000000
set_option autoImplicit false
/-! PfB6: sums of fractions -/
namespace Pf
/-- a fraction made of n prices -/
structure Fb (n : Nat) (f : Int × Int) : Prop where
  p0 : 0 ≤ f.1
  p1 : f.1 ≤ 1000000 * n * f.2
  q0 : 0 < f.2
  q1 : f.2 ≤ 100 ^ n
def uadd (f g : Int × Int) : Int × Int := (f.1 * g.2 + g.1 * f.2, f.2 * g.2)
theorem Fb.add {a b : Nat} {f g : Int × Int} (h1 : Fb a f) (h2 : Fb b g) : Fb (a + b) (uadd f g) := by
  obtain ⟨a1, a2, a3, a4⟩ := h1
  obtain ⟨b1, b2, b3, b4⟩ := h2
  refine ⟨?_, ?_, Int.mul_pos a3 b3, ?_⟩
  · exact Int.add_nonneg (Int.mul_nonneg a1 (Int.le_of_lt b3)) (Int.mul_nonneg b1 (Int.le_of_lt a3))
  · have e1 := Int.mul_le_mul_of_nonneg_right a2 (Int.le_of_lt b3)
    have e2 := Int.mul_le_mul_of_nonneg_right b2 (Int.le_of_lt a3)
    have e3 : (1000000 * ((a + b : Nat) : Int) * (f.2 * g.2)) = 1000000 * (a : Int) * f.2 * g.2 + 1000000 * (b : Int) * g.2 * f.2 := by
      push_cast
      rw [Int.mul_add, Int.add_mul]
      congr 1 <;> simp [Int.mul_comm, Int.mul_assoc, Int.mul_left_comm]
    show f.1 * g.2 + g.1 * f.2 ≤ _
    show f.1 * g.2 + g.1 * f.2 ≤ 1000000 * ((a + b : Nat) : Int) * (f.2 * g.2)
    rw [e3]
    omega
  · show f.2 * g.2 ≤ 100 ^ (a + b)
    rw [Int.pow_add]
    exact Int.mul_le_mul a4 b4 (Int.le_of_lt b3) (Int.le_of_lt (Int.pow_pos (by decide)))
theorem Fb.can {n : Nat} {p q : Int} (h : Fb n (p, q)) : Fb n (can p q) := by
  obtain ⟨a1, a2, a3, a4⟩ := h
  simp only at a1 a2 a3 a4
  have hc := can_cross (p := p) (q := q)
  have hp := can_pos (p := p) a3
  have hl := can_le (p := p) a3
  refine ⟨?_, ?_, hp, by omega⟩
  · exact Int.ediv_nonneg a1 (Int.natCast_nonneg _)
  · have e := Int.mul_le_mul_of_nonneg_right a2 (Int.le_of_lt hp)
    refine Int.le_of_mul_le_mul_right (a := q) ?_ a3
    rw [hc]
    have e2 : 1000000 * (n : Int) * (Pf.can p q).2 * q = 1000000 * (n : Int) * q * (Pf.can p q).2 := by simp [Int.mul_comm, Int.mul_assoc, Int.mul_left_comm]
    rw [e2]
    exact e
theorem Fb.mono {n m : Nat} {f : Int × Int} (h : Fb n f) (hm : n ≤ m) : Fb m f := by
  obtain ⟨a1, a2, a3, a4⟩ := h
  refine ⟨a1, Int.le_trans a2 (Int.mul_le_mul_of_nonneg_right (by omega) (Int.le_of_lt a3)), a3, Int.le_trans a4 ?_⟩
  have := Nat.pow_le_pow_right (n := 100) (by decide) hm
  exact_mod_cast this
theorem Fb.zero : Fb 0 (0, 1) := ⟨by decide, by decide, by decide, by decide⟩
theorem Fb.q200 {n : Nat} {f : Int × Int} (h : Fb n f) (hn : n ≤ 60) : f.2 ≤ 2 ^ 400 := by
  have h1 := (h.mono hn).q1
  exact Int.le_trans h1 (by decide)
theorem Fb.sm {n : Nat} {f : Int × Int} (h : Fb n f) (hn : n ≤ 60) : Sm f.1 ∧ Sm f.2 ∧ f.2 < 2 ^ 1000 := by
  have h1 := (h.mono hn).p1
  have h2 := h.q200 hn
  have h3 := h.q0
  have h4 := h.p0
  have e1 : f.1 ≤ 60000000 * 2 ^ 400 := Int.le_trans h1 (Int.mul_le_mul_of_nonneg_left h2 (by decide))
  have e2 : (60000000 : Int) * 2 ^ 400 < 2 ^ 1000 := by decide
  have e3 : (2 : Int) ^ 400 < 2 ^ 1000 := by decide
  have e4 : ((2 ^ 1000 : Nat) : Int) = 2 ^ 1000 := by push_cast; rfl
  refine ⟨?_, ?_, by omega⟩
  · show f.1.natAbs < 2 ^ 1000
    omega
  · show f.2.natAbs < 2 ^ 1000
    omega
/-- many fractions, n prices together -/
inductive Fbs : Nat → List (Int × Int) → Prop
  | nil : Fbs 0 []
  | cons {a b : Nat} {f : Int × Int} {fs : List (Int × Int)} : Fb a f → Fbs b fs → Fbs (a + b) (f :: fs)
def usum (a : Int × Int) (fs : List (Int × Int)) : Int × Int := fs.foldl uadd a
theorem usum_fb : ∀ {fs : List (Int × Int)} {a n : Nat} {x : Int × Int}, Fb a x → Fbs n fs → Fb (a + n) (usum x fs)
  | [], _, _, _, h, .nil => h
  | f :: fs, _, _, _, h, .cons h1 h2 => by
    have := usum_fb (h.add h1) h2
    rw [Nat.add_assoc] at this
    exact this
/-- .. and in lowest terms at each step -/
def csum (a : Int × Int) (fs : List (Int × Int)) : Int × Int := fs.foldl (fun x f => can (uadd x f).1 (uadd x f).2) a
theorem csum_eq : ∀ {fs : List (Int × Int)} {n : Nat} {p q : Int}, 0 < q → Fbs n fs → csum (can p q) fs = can (usum (p, q) fs).1 (usum (p, q) fs).2
  | [], _, p, q, hq, _ => rfl
  | f :: fs, _, p, q, hq, .cons h1 h2 => by
    show csum (can (uadd (can p q) f).1 (uadd (can p q) f).2) fs = can (usum (uadd (p, q) f) fs).1 (usum (uadd (p, q) f) fs).2
    have e : can (uadd (can p q) f).1 (uadd (can p q) f).2 = can (uadd (p, q) f).1 (uadd (p, q) f).2 := can_add hq h1.q0
    rw [e]
    exact csum_eq (Int.mul_pos hq h1.q0) h2
section
variable {S : Store} {k : Nat}
theorem plus_fb {a b : Nat} {f g : Int × Int} (h1 : Fb a f) (h2 : Fb b g) (hn : a + b ≤ 60) : callF FF (k + 3) 8 [fr f, fr g] S = .ok (fr (can (uadd f g).1 (uadd f g).2)) S := by
  have h3 := h1.add h2
  exact plus_ok (h1.sm (by omega)).1 (h1.sm (by omega)).2.1 (h2.sm (by omega)).1 (h2.sm (by omega)).2.1 h3.q0 (h3.sm hn).2.2
abbrev body9 : St := (.seq (.asg (.name 1) (.call 8 (.cons (.var 1) (.cons (.var 2) .nil)))) .skip)
theorem summed_loop {v0 : Option D} : ∀ (fs : List (Int × Int)) (a n : Nat) (x : Int × Int) (w : Option D), Fb a x → Fbs n fs → a + n ≤ 60 →
    ∃ w', forF (bodyF (callF FF (k + 3)) (.name 2) body9) (fs.map fr) [v0, some (fr x), w] S = .ok (.nx [v0, some (fr (csum x fs)), w']) S
  | [], _, _, x, w, _, _, _ => ⟨w, rfl⟩
  | f :: fs, a, _, x, w, h, .cons (b := b) h1 h2, hn => by
    obtain ⟨w', e⟩ := summed_loop fs _ _ (can (uadd x f).1 (uadd x f).2) (some (fr f)) (h.add h1).can h2 (by omega)
    refine ⟨w', ?_⟩
    rw [List.map_cons, forF_cons, bodyF_name (by simp)]
    simp [body9, plus_fb (k := k) h h1 (by omega)]
    exact e
theorem summed_ok {fs : List (Int × Int)} {n : Nat} (h : Fbs n fs) (hn : n ≤ 60) : callF FF (k + 4) 9 [.lst (fs.map fr)] S = .ok (fr (csum (0, 1) fs)) S := by
  rw [call_eq F_9 rfl]
  obtain ⟨w', e⟩ := summed_loop (k := k) (S := S) (v0 := some (.lst (fs.map fr))) fs 0 n (0, 1) none Fb.zero h (by omega)
  unfold fr at e ⊢
  simp [f9]
  rw [e]
  simp
  rw [finR_rt rfl, List.take_length]
end
end Pf

set_option linter.all false
set_option Elab.async false
set_option maxRecDepth 100000
set_option maxHeartbeats 1000000
set_option autoImplicit false
/-! PfB7: what counts -/
namespace Pf
section
variable {S : Store} {k : Nat}
abbrev body33 : St := (.seq (.asg (.tup [(.name 1), (.name 2)]) (.tup (.cons (.bin .add (.bin .mul (.var 1) (.idx (.var 3) (.con (.int 1)))) (.bin .mul (.idx (.var 3) (.con (.int 0))) (.var 2))) (.cons (.bin .mul (.var 2) (.idx (.var 3) (.con (.int 1)))) .nil))))
    .skip)
theorem lsum_loop {cl : Nat → List D → M D} {v0 : Option D} : ∀ (fs : List (Int × Int)) (a n : Nat) (x : Int × Int) (w : Option D), Fb a x → Fbs n fs → a + n ≤ 60 →
    ∃ w', forF (bodyF cl (.name 3) body33) (fs.map fr) [v0, some (.int x.1), some (.int x.2), w] S = .ok (.nx [v0, some (.int (usum x fs).1), some (.int (usum x fs).2), w']) S
  | [], _, _, x, w, _, _, _ => ⟨w, rfl⟩
  | f :: fs, a, _, x, w, h, .cons (b := b) h1 h2, hn => by
    obtain ⟨w', e⟩ := lsum_loop fs _ _ (uadd x f) (some (fr f)) (h.add h1) h2 (by omega)
    refine ⟨w', ?_⟩
    obtain ⟨s1, s2, _⟩ := h.sm (by omega)
    obtain ⟨s3, s4, _⟩ := h1.sm (by omega)
    rw [List.map_cons, forF_cons, bodyF_name (by simp)]
    unfold fr at e ⊢
    simp [body33, mul_sm, s1, s2, s3, s4]
    exact e
theorem law_sum_ok {fs : List (Int × Int)} {n : Nat} (h : Fbs n fs) (hn : n ≤ 60) : callF FF (k + 2) 33 [.lst (fs.map fr)] S = .ok (fr (can (usum (0, 1) fs).1 (usum (0, 1) fs).2)) S := by
  rw [call_eq F_33 rfl]
  obtain ⟨w', e⟩ := lsum_loop (S := S) (cl := callF FF (k + 1)) (v0 := some (.lst (fs.map fr))) fs 0 n (0, 1) none Fb.zero h (by omega)
  have hb := usum_fb Fb.zero h
  obtain ⟨s1, s2, s3⟩ := hb.sm (by omega)
  simp [f33] at e ⊢
  rw [e]
  simp [law_least_ok (k := k) s1 hb.q0 s3]
  rw [finR_rt rfl, List.take_length]
theorem can_lt {a b c d : Int} (hb : 0 < b) (hd : 0 < d) : (can a b).1 * (can c d).2 < (can c d).1 * (can a b).2 ↔ a * d < c * b := by
  have h1 := can_1 (p := a) (q := b)
  have h2 := can_2 (p := a) (q := b)
  have h3 := can_1 (p := c) (q := d)
  have h4 := can_2 (p := c) (q := d)
  have g1 := gcd_pos (p := a) hb
  have g2 := gcd_pos (p := c) hd
  generalize (can a b).1 = A at *
  generalize (can a b).2 = B at *
  generalize (can c d).1 = C at *
  generalize (can c d).2 = E at *
  generalize (a.gcd b) = g at *
  generalize (c.gcd d) = h at *
  have hgh : (0 : Int) < (g : Int) * (h : Int) := Int.mul_pos (by omega) (by omega)
  have e1 : a * d = (A * E) * ((g : Int) * h) := by rw [← h1, ← h4]; simp [Int.mul_comm, Int.mul_assoc, Int.mul_left_comm]
  have e2 : c * b = (C * B) * ((g : Int) * h) := by rw [← h3, ← h2]; simp [Int.mul_comm, Int.mul_assoc, Int.mul_left_comm]
  rw [e1, e2]
  exact ⟨fun z => Int.mul_lt_mul_of_pos_right z hgh, fun z => Int.lt_of_mul_lt_mul_right z (Int.le_of_lt hgh)⟩
/-- own is enough of cost -/
def enough (share : Int) (own cost : Int × Int) : Bool := decide (share * cost.1 * own.2 ≤ 100 * own.1 * cost.2)
theorem sm_mul {i j : Int} (h1 : i.natAbs < 2 ^ 500) (h2 : j.natAbs < 2 ^ 400) : Sm (i * j) := by
  show (i * j).natAbs < 2 ^ 1000
  rw [Int.natAbs_mul]
  exact Nat.lt_of_le_of_lt (Nat.mul_le_mul (Nat.le_of_lt h1) (Nat.le_of_lt h2)) (by decide)
theorem Fb.small {n : Nat} {f : Int × Int} (h : Fb n f) (hn : n ≤ 20) : f.1.natAbs < 2 ^ 200 ∧ f.2.natAbs < 2 ^ 200 := by
  have h1 := (h.mono hn).p1
  have h2 := (h.mono hn).q1
  have h3 := h.q0
  have h4 := h.p0
  have e0 : f.2 ≤ 2 ^ 140 := Int.le_trans h2 (by decide)
  have e1 : f.1 ≤ 20000000 * 2 ^ 140 := Int.le_trans h1 (Int.mul_le_mul_of_nonneg_left e0 (by decide))
  omega
theorem is_enough_ok {a b : Nat} {own cost : Int × Int} {share : Int} (h1 : Fb a own) (h2 : Fb b cost) (ha : a ≤ 20) (hb : b ≤ 20) (h0 : 0 ≤ share) (h3 : share ≤ 100) : callF FF (k + 4) 4 [.int share, fr own, fr cost] S = .ok (.bl (enough share own cost)) S := by
  rw [call_eq F_4 rfl]
  obtain ⟨s1, s2⟩ := h1.small ha
  obtain ⟨s3, s4⟩ := h2.small hb
  have q1 : own.2 < 2 ^ 1000 := (h1.sm (by omega)).2.2
  have q2 : cost.2 < 2 ^ 1000 := (h2.sm (by omega)).2.2
  have e1 := times_ok (k := k) (S := S) (f := own) (m := 100) (h1.sm (by omega)).1 (sm_of (by decide)) h1.q0 q1
  have e2 := times_ok (k := k) (S := S) (f := cost) (m := share) (h2.sm (by omega)).1 (sm_of (by omega)) h2.q0 q2
  have m1 : (own.1 * 100).natAbs < 2 ^ 300 := by omega
  have m2 : (cost.1 * share).natAbs < 2 ^ 300 := by
    rw [Int.natAbs_mul]
    exact Nat.lt_of_le_of_lt (Nat.mul_le_mul (Nat.le_of_lt s3) (show share.natAbs ≤ 100 by omega)) (by decide)
  have l1 := can_le (p := own.1 * 100) h1.q0
  have l2 := can_pos (p := own.1 * 100) h1.q0
  have l3 := can_le (p := cost.1 * share) h2.q0
  have l4 := can_pos (p := cost.1 * share) h2.q0
  have t1 : Sm (can (own.1 * 100) own.2).1 := sm_of (Nat.lt_of_le_of_lt can_abs m1)
  have t2 : Sm (can (own.1 * 100) own.2).2 := sm_of (by omega)
  have t3 : Sm (can (cost.1 * share) cost.2).1 := sm_of (Nat.lt_of_le_of_lt can_abs m2)
  have t4 : Sm (can (cost.1 * share) cost.2).2 := sm_of (by omega)
  have e3 := is_below_ok (k := k + 2) (S := S) t1 t2 t3 t4
  simp only [can_lt h1.q0 h2.q0] at e3
  have hE : (!decide (own.1 * 100 * cost.2 < cost.1 * share * own.2)) = enough share own cost := by
    unfold enough
    rw [← decide_not]
    congr 1
    have z1 : own.1 * 100 * cost.2 = 100 * own.1 * cost.2 := by rw [Int.mul_comm own.1]
    have z2 : cost.1 * share * own.2 = share * cost.1 * own.2 := by rw [Int.mul_comm cost.1]
    rw [z1, z2]
    exact propext Int.not_lt
  rw [← hE]
  simp [f4, e1, e2, e3]
  rw [finR_rt rfl, List.take_length]
/-- what counts of a thing -/
def cnt (t : Th) (own cost : Int × Int) : Int × Int := match t with
  | .raw _ _ _ => own
  | .made _ _ _ s w o _ => if enough s own cost then (if w then cost else own) else (if o then own else (0, 1))
theorem counts_of_ok {t : Th} {a b : Nat} {own cost : Int × Int} (hk : t.ok) (h1 : Fb a own) (h2 : Fb b cost) (ha : a ≤ 20) (hb : b ≤ 20) : callF FF (k + 5) 7 [t.d, fr own, fr cost] S = .ok (fr (cnt t own cost)) S := by
  rw [call_eq F_7 rfl]
  cases t with
  | raw hh lo hi =>
    have c1 : cmpF .ne (.str sRaw) (.str [109, 97, 100, 101]) S = .ok (.bl true) S := rfl
    rw [Th.d]
    simp [f7, c1]
    rw [finR_rt rfl, List.take_length]
    rfl
  | made hh lo hi s w o ps =>
    have k' := (show (0 ≤ lo ∧ lo ≤ hi ∧ hi ≤ 1000000) ∧ (0 ≤ s ∧ s ≤ 100) ∧ (1 ≤ ps.length ∧ ps.length ≤ 4) ∧ Th.oks ps by simpa only [Th.ok] using hk)
    have c1 : cmpF .ne (.str sMade) (.str [109, 97, 100, 101]) S = .ok (.bl false) S := rfl
    have c2 : cmpF .eq (upD w) (.str [119, 104, 111, 108, 101]) S = .ok (.bl w) S := by cases w <;> rfl
    have c3 : cmpF .eq (dnD o) (.str [110, 111, 110, 101]) S = .ok (.bl (!o)) S := by cases o <;> rfl
    have e := is_enough_ok (k := k) (S := S) h1 h2 ha hb k'.2.1.1 k'.2.1.2
    rw [Th.d]
    unfold termD
    by_cases he : enough s own cost = true
    · cases w <;> (simp [f7, c1, e, he, c2]; rw [finR_rt rfl, List.take_length]; simp [cnt, he])
    · simp only [Bool.not_eq_true] at he
      cases o <;> (simp [f7, c1, e, he, c3]; rw [finR_rt rfl, List.take_length]; simp [cnt, he, fr])
theorem law_counted_ok {t : Th} {a b : Nat} {own cost : Int × Int} (hk : t.ok) (h1 : Fb a own) (h2 : Fb b cost) (ha : a ≤ 20) (hb : b ≤ 20) : callF FF (k + 1) 32 [t.d, fr own, fr cost] S = .ok (fr (cnt t own cost)) S := by
  rw [call_eq F_32 rfl]
  obtain ⟨s1, s2⟩ := h1.small ha
  obtain ⟨s3, s4⟩ := h2.small hb
  cases t with
  | raw hh lo hi =>
    have c1 : cmpF .eq (.str sRaw) (.str [114, 97, 119]) S = .ok (.bl true) S := rfl
    rw [Th.d]
    simp [f32, c1]
    rw [finR_rt rfl, List.take_length]
    rfl
  | made hh lo hi s w o ps =>
    have k' := (show (0 ≤ lo ∧ lo ≤ hi ∧ hi ≤ 1000000) ∧ (0 ≤ s ∧ s ≤ 100) ∧ (1 ≤ ps.length ∧ ps.length ≤ 4) ∧ Th.oks ps by simpa only [Th.ok] using hk)
    have c1 : cmpF .eq (.str sMade) (.str [114, 97, 119]) S = .ok (.bl false) S := rfl
    have c2 : cmpF .eq (upD w) (.str [119, 104, 111, 108, 101]) S = .ok (.bl w) S := by cases w <;> rfl
    have c3 : cmpF .eq (dnD o) (.str [111, 119, 110]) S = .ok (.bl o) S := by cases o <;> rfl
    have m1 : opF .mul (.int 100) (.int own.1) S = .ok (.int (100 * own.1)) S := opF_mulI (mulOk_l (by decide))
    have m2 : opF .mul (.int (100 * own.1)) (.int cost.2) S = .ok (.int (100 * own.1 * cost.2)) S := mul_sm (sm_of (by omega)) (sm_of (by omega))
    have m3 : opF .mul (.int s) (.int cost.1) S = .ok (.int (s * cost.1)) S := opF_mulI (mulOk_l (by omega))
    have ms : (s * cost.1).natAbs < 2 ^ 300 := by
      rw [Int.natAbs_mul]
      exact Nat.lt_of_le_of_lt (Nat.mul_le_mul (show s.natAbs ≤ 100 by omega) (Nat.le_of_lt s3)) (by decide)
    have m4 : opF .mul (.int (s * cost.1)) (.int own.2) S = .ok (.int (s * cost.1 * own.2)) S := mul_sm (sm_of ms) (sm_of (by omega))
    have e : decide (s * cost.1 * own.2 ≤ 100 * own.1 * cost.2) = enough s own cost := rfl
    rw [Th.d]
    unfold termD
    by_cases he : s * cost.1 * own.2 ≤ 100 * own.1 * cost.2
    · have he2 : enough s own cost = true := decide_eq_true he
      unfold fr
      cases w <;> (simp [f32, c1, m1, m2, m3, m4, he, c2]; rw [finR_rt rfl, List.take_length]; simp [cnt, he2])
    · have he2 : enough s own cost = false := decide_eq_false he
      unfold fr
      cases o <;> (simp [f32, c1, m1, m2, m3, m4, he, c3]; rw [finR_rt rfl, List.take_length]; simp [cnt, he2])
end
end Pf

set_option linter.all false
set_option Elab.async false
set_option maxRecDepth 100000
set_option maxHeartbeats 1000000
set_option autoImplicit false
/-! PfB8: rows and their parts; the model's entries -/
namespace Pf
/-- the numbers ps name the things us; the first row has the number b -/
inductive PartsAt (rows : List (Th × List Nat)) (b : Nat) : List Th → List Nat → Prop
  | nil : PartsAt rows b [] []
  | cons {u : Th} {us : List Th} {p : Nat} {ps ns : List Nat} : b ≤ p → rows[p - b]? = some (u, ns) → PartsAt rows b us ps → PartsAt rows b (u :: us) (p :: ps)
def Th.parts : Th → List Th
  | .raw _ _ _ => []
  | .made _ _ _ _ _ _ ps => ps
theorem PartsAt.left {rows more : List (Th × List Nat)} {b : Nat} : ∀ {us : List Th} {ps : List Nat}, PartsAt rows b us ps → PartsAt (rows ++ more) b us ps
  | _, _, .nil => .nil
  | _, _, .cons h e t => .cons h (by rw [List.getElem?_append_left (List.getElem?_eq_some_iff.mp e).1]; exact e) (PartsAt.left t)
theorem PartsAt.right {rows more : List (Th × List Nat)} {b : Nat} : ∀ {us : List Th} {ps : List Nat}, PartsAt rows (b + more.length) us ps → PartsAt (more ++ rows) b us ps
  | _, _, .nil => .nil
  | _, _, .cons (p := p) h e t => .cons (by omega) (by
      rw [List.getElem?_append_right (by omega), show p - b - more.length = p - (b + more.length) by omega]; exact e) (PartsAt.right t)
theorem Th.rows_head (t : Th) (b : Nat) : ∃ ns, (t.rows b)[0]? = some (t, ns) := by
  cases t with
  | raw h lo hi => exact ⟨[], rfl⟩
  | made h lo hi s w o ps => exact ⟨Th.nums ps (b + 1), rfl⟩
theorem Th.nums_at : ∀ (ps : List Th) (c : Nat), PartsAt (Th.rowss ps c) c ps (Th.nums ps c)
  | [], _ => .nil
  | p :: ps, c => by
    rw [Th.rowss, Th.nums]
    obtain ⟨ns, e⟩ := Th.rows_head p c
    have h := Th.nums_at ps (c + p.size)
    refine .cons (ns := ns) (Nat.le_refl _) ?_ (PartsAt.right (by rw [Th.rows_len]; exact h))
    rw [Nat.sub_self, List.getElem?_append_left (List.getElem?_eq_some_iff.mp e).1]
    exact e
theorem Th.nums_ge : ∀ (ps : List Th) (c : Nat), ∀ p ∈ Th.nums ps c, c ≤ p
  | [], _, _, h => by cases h
  | t :: ts, c, p, h => by
    rw [Th.nums] at h
    rcases List.mem_cons.mp h with rfl | h
    · exact Nat.le_refl _
    · have := Th.nums_ge ts _ p h; omega
mutual
theorem Th.rows_at : ∀ (t : Th) (b j : Nat) (u : Th) (ps : List Nat), (t.rows b)[j]? = some (u, ps) → PartsAt (t.rows b) b u.parts ps ∧ ∀ p ∈ ps, b + j < p
  | .raw h lo hi, b, j, u, ps, e => by
    rw [Th.rows] at e ⊢
    cases j with
    | zero => simp at e; obtain ⟨rfl, rfl⟩ := e; exact ⟨.nil, fun p hp => by cases hp⟩
    | succ j => simp at e
  | .made h lo hi s w o qs, b, j, u, ps, e => by
    rw [Th.rows] at e ⊢
    cases j with
    | zero =>
      simp at e
      obtain ⟨rfl, rfl⟩ := e
      have hn := Th.nums_at qs (b + 1)
      refine ⟨PartsAt.right (more := [(Th.made h lo hi s w o qs, Th.nums qs (b + 1))]) hn, fun p hp => by have := Th.nums_ge _ _ p hp; omega⟩
    | succ j =>
      have e' : (Th.rowss qs (b + 1))[j]? = some (u, ps) := by simpa using e
      obtain ⟨h1, h2⟩ := Th.rowss_at qs (b + 1) j u ps e'
      refine ⟨PartsAt.right (more := [(Th.made h lo hi s w o qs, Th.nums qs (b + 1))]) h1, fun p hp => by have := h2 p hp; omega⟩
theorem Th.rowss_at : ∀ (ts : List Th) (b j : Nat) (u : Th) (ps : List Nat), (Th.rowss ts b)[j]? = some (u, ps) → PartsAt (Th.rowss ts b) b u.parts ps ∧ ∀ p ∈ ps, b + j < p
  | [], b, j, u, ps, e => by rw [Th.rowss] at e; simp at e
  | t :: ts, b, j, u, ps, e => by
    rw [Th.rowss] at e ⊢
    by_cases hj : j < t.size
    · rw [List.getElem?_append_left (by rw [Th.rows_len]; exact hj)] at e
      obtain ⟨h1, h2⟩ := Th.rows_at t b j u ps e
      exact ⟨h1.left, h2⟩
    · rw [List.getElem?_append_right (by rw [Th.rows_len]; omega), Th.rows_len] at e
      obtain ⟨h1, h2⟩ := Th.rowss_at ts (b + t.size) (j - t.size) u ps e
      refine ⟨PartsAt.right (by rw [Th.rows_len]; exact h1), fun p hp => by have := h2 p hp; omega⟩
end
/-! sums, put together -/
theorem uadd_assoc (a b c : Int × Int) : uadd (uadd a b) c = uadd a (uadd b c) := by
  unfold uadd
  refine Prod.ext ?_ ?_
  · simp only
    rw [Int.add_mul, Int.add_mul, Int.add_assoc]
    congr 1
    · exact Int.mul_assoc ..
    · congr 1 <;> simp [Int.mul_comm, Int.mul_assoc, Int.mul_left_comm]
  · exact Int.mul_assoc ..
theorem uadd_comm (a b : Int × Int) : uadd a b = uadd b a := by
  unfold uadd
  refine Prod.ext ?_ ?_
  · exact Int.add_comm ..
  · exact Int.mul_comm ..
theorem uadd_zero (a : Int × Int) : uadd a (0, 1) = a := by
  unfold uadd
  refine Prod.ext ?_ ?_ <;> simp
theorem zero_uadd (a : Int × Int) : uadd (0, 1) a = a := by rw [uadd_comm, uadd_zero]
theorem usum_eq : ∀ (fs : List (Int × Int)) (p : Int × Int), usum p fs = uadd p (usum (0, 1) fs)
  | [], p => (uadd_zero p).symm
  | f :: fs, p => by
    show usum (uadd p f) fs = uadd p (usum (uadd (0, 1) f) fs)
    rw [usum_eq fs (uadd p f), usum_eq fs (uadd (0, 1) f), zero_uadd, uadd_assoc]
def canP (f : Int × Int) : Int × Int := can f.1 f.2
theorem canP_add {f g : Int × Int} (hf : 0 < f.2) (hg : 0 < g.2) : canP (uadd f (canP g)) = canP (uadd f g) := by
  rw [uadd_comm f (canP g), uadd_comm f g]
  exact can_add hg hf
/-- the program's way: the own price and the sum of the parts -/
theorem prog_sum {m : Int × Int} {cs : List (Int × Int)} {n : Nat} (hm : 0 < m.2) (h : Fbs n cs) : canP (uadd m (csum (0, 1) cs)) = canP (usum m cs) := by
  have e : csum (0, 1) cs = canP (usum (0, 1) cs) := by
    have z := csum_eq (p := 0) (q := 1) (by decide) h
    have z2 : can 0 1 = (0, 1) := by decide
    rw [z2] at z
    exact z
  rw [e, canP_add hm (usum_fb Fb.zero h).q0, ← usum_eq]
end Pf

set_option linter.all false
set_option Elab.async false
set_option maxRecDepth 100000
set_option maxHeartbeats 1000000
set_option autoImplicit false
/-! PfB9: the model's entries -/
namespace Pf
structure Ent where
  cost : Int × Int
  own : Int × Int
  cnt : Int × Int
def ent0 : Ent := ⟨(0, 1), (0, 1), (0, 1)⟩
def mine (u : Th) (f : Int × Int) : Int × Int := if u.here then f else (0, 1)
def entOf (u : Th) (f : Int × Int) (es : List Ent) : Ent := ⟨canP (usum f (es.map (·.cost))), canP (usum (mine u f) (es.map (·.cnt))), Pf.cnt u (canP (usum (mine u f) (es.map (·.cnt)))) (canP (usum f (es.map (·.cost))))⟩
/-- the entries of the rows from i on -/
def ents : List (Th × List Nat) → List (Int × Int) → Nat → List Ent
  | [], _, _ => []
  | r :: rs, fs, i => entOf r.1 (fs.headD (0, 1)) (r.2.map fun p => (ents rs fs.tail (i + 1)).getD (p - (i + 1)) ent0) :: ents rs fs.tail (i + 1)
theorem ents_len : ∀ (rs : List (Th × List Nat)) (fs : List (Int × Int)) (i : Nat), (ents rs fs i).length = rs.length
  | [], _, _ => rfl
  | r :: rs, fs, i => by rw [ents, List.length_cons, List.length_cons, ents_len rs]
inductive Well : Nat → List (Th × List Nat) → Prop
  | nil {i : Nat} : Well i []
  | cons {i : Nat} {u : Th} {ps : List Nat} {rs : List (Th × List Nat)} : PartsAt rs (i + 1) u.parts ps → Well (i + 1) rs → Well i ((u, ps) :: rs)
theorem PartsAt.drop {rows : List (Th × List Nat)} {j : Nat} : ∀ {us : List Th} {ps : List Nat}, PartsAt rows 0 us ps → (∀ p ∈ ps, j < p) → PartsAt (rows.drop (j + 1)) (j + 1) us ps
  | _, _, .nil, _ => .nil
  | _, _, .cons (p := p) h e t, hp => .cons (by have := hp p List.mem_cons_self; omega) (by
      have := hp p List.mem_cons_self
      rw [List.getElem?_drop, show j + 1 + (p - (j + 1)) = p - 0 by omega]; exact e) (PartsAt.drop t fun q hq => hp q (List.mem_cons_of_mem _ hq))
theorem well_drop (t : Th) : ∀ (n i : Nat), i + n = (t.rows 0).length → Well i ((t.rows 0).drop i)
  | 0, i, h => by rw [List.drop_eq_nil_of_le (by omega)]; exact .nil
  | n + 1, i, h => by
    have hi : i < (t.rows 0).length := by omega
    rw [List.drop_eq_getElem_cons hi]
    have e : (t.rows 0)[i]? = some (t.rows 0)[i] := List.getElem?_eq_getElem hi
    obtain ⟨u, ps, hx⟩ : ∃ u ps, (t.rows 0)[i] = (u, ps) := ⟨_, _, rfl⟩
    rw [hx] at e ⊢
    obtain ⟨h1, h2⟩ := Th.rows_at t 0 i u ps e
    exact .cons (h1.drop fun p hp => by have := h2 p hp; omega) (well_drop t n (i + 1) (by omega))
theorem Th.well (t : Th) : Well 0 (t.rows 0) := by simpa using well_drop t (t.rows 0).length 0 (by omega)
theorem price_fb {t : Th} {f : Int × Int} (hk : t.ok) (h : PriceOk t f) : Fb 1 f := by
  obtain ⟨b1, b2, b3⟩ := Th.bounds hk
  refine ⟨(h.num hk).1, ?_, h.q0, h.q1⟩
  have h1 := h.hi
  have h2 := Int.mul_le_mul_of_nonneg_right b3 (Int.le_of_lt h.q0)
  show f.1 ≤ 1000000 * 1 * f.2
  omega
structure EntFb (n : Nat) (e : Ent) : Prop where
  cost : Fb n e.cost
  own : Fb n e.own
  cnt : Fb n e.cnt
theorem cnt_fb {u : Th} {n : Nat} {o c : Int × Int} (h1 : Fb n o) (h2 : Fb n c) : Fb n (cnt u o c) := by
  unfold cnt
  cases u with
  | raw => exact h1
  | made h lo hi s w ow ps =>
    simp only
    split
    · split
      · exact h2
      · exact h1
    · split
      · exact h1
      · exact Fb.zero.mono (Nat.zero_le _)
theorem parts_fb {es : List Ent} {rs : List (Th × List Nat)} {i : Nat} (H : ∀ (j : Nat) (u : Th) (ps : List Nat), rs[j]? = some (u, ps) → ∃ e, es[j]? = some e ∧ EntFb u.size e) :
    ∀ {us : List Th} {ps : List Nat}, PartsAt rs i us ps → Fbs (Th.sizes us) ((ps.map fun p => es.getD (p - i) ent0).map (·.cost)) ∧ Fbs (Th.sizes us) ((ps.map fun p => es.getD (p - i) ent0).map (·.cnt))
  | _, _, .nil => ⟨.nil, .nil⟩
  | _, _, .cons (p := p) (u := u) (ns := ns) h e t => by
    obtain ⟨h1, h2⟩ := parts_fb H t
    obtain ⟨en, g1, g2⟩ := H _ _ _ e
    have g3 : es.getD (p - i) ent0 = en := by rw [List.getD_eq_getElem?_getD, g1]; rfl
    rw [Th.sizes, List.map_cons, List.map_cons, List.map_cons, g3]
    exact ⟨.cons g2.cost h1, .cons g2.cnt h2⟩
theorem Th.size_parts (u : Th) : u.size = 1 + Th.sizes u.parts := by cases u <;> simp [Th.size, Th.parts, Th.sizes]; omega
theorem entOf_fb {u : Th} {f : Int × Int} {es : List Ent} (hf : Fb 1 f) (h1 : Fbs (Th.sizes u.parts) (es.map (·.cost))) (h2 : Fbs (Th.sizes u.parts) (es.map (·.cnt))) : EntFb u.size (entOf u f es) := by
  have hm : Fb 1 (mine u f) := by unfold mine; split; exact hf; exact Fb.zero.mono (Nat.zero_le _)
  have c1 := usum_fb hf h1
  have c2 := usum_fb hm h2
  rw [← Th.size_parts] at c1 c2
  have d1 : Fb u.size (canP (usum f (es.map (·.cost)))) := Fb.can c1
  have d2 : Fb u.size (canP (usum (mine u f) (es.map (·.cnt)))) := Fb.can c2
  exact ⟨d1, d2, cnt_fb d2 d1⟩
theorem ents_fb : ∀ {rs : List (Th × List Nat)} {fs : List (Int × Int)} {i : Nat}, Well i rs → (∀ r ∈ rs, r.1.ok) → PricesOk rs fs → ∀ (j : Nat) (u : Th) (ps : List Nat), rs[j]? = some (u, ps) → ∃ e, (ents rs fs i)[j]? = some e ∧ EntFb u.size e
  | [], _, _, _, _, _, j, u, ps, e => by simp at e
  | (u', ps') :: rs, [], i, _, _, hp, _, _, _, _ => hp.elim
  | (u', ps') :: rs, f :: fs, i, .cons h1 h2, hk, hp, j, u, ps, e => by
    have ih := ents_fb h2 (fun r hr => hk r (List.mem_cons_of_mem _ hr)) hp.2
    rw [ents]
    cases j with
    | zero =>
      simp at e
      obtain ⟨rfl, rfl⟩ := e
      obtain ⟨q1, q2⟩ := parts_fb ih h1
      exact ⟨_, rfl, entOf_fb (price_fb (hk _ List.mem_cons_self) hp.1) q1 q2⟩
    | succ j =>
      obtain ⟨en, g1, g2⟩ := ih j u ps (by simpa using e)
      exact ⟨en, by simpa using g1, g2⟩
end Pf

set_option linter.all false
set_option Elab.async false
set_option maxRecDepth 100000
set_option maxHeartbeats 2000000
set_option autoImplicit false
/-! PfC1: the program's reckoning -/
namespace Pf
section
variable {S : Store} {A B C A' : Ob}
theorem thr0 : (S ++ [A, B, C])[S.length]? = some A := by simp
theorem thr1 : (S ++ [A, B, C])[S.length + 1]? = some B := by
  rw [List.getElem?_append_right (by omega)]; simp
theorem thr2 : (S ++ [A, B, C])[S.length + 2]? = some C := by
  rw [List.getElem?_append_right (by omega)]; simp
theorem thr0s : (S ++ [A, B, C]).set S.length A' = S ++ [A', B, C] := by
  rw [List.set_append_right _ _ (Nat.le_refl _)]; simp
theorem thr1s : (S ++ [A, B, C]).set (S.length + 1) A' = S ++ [A, A', C] := by
  rw [List.set_append_right _ _ (by omega)]; simp
theorem thr2s : (S ++ [A, B, C]).set (S.length + 2) A' = S ++ [A, B, A'] := by
  rw [List.set_append_right _ _ (by omega)]; simp
end
section
variable {S : Store} {k : Nat}
theorem idx_ref {r n : Nat} {l : List D} {x : D} {S : Store} (h : S[r]? = some (.lst l)) (e : l[n]? = some x) : idxF (.ref r) (.int n) S = .ok x S := by
  show (match S[r]? with
    | some (.lst l) => (match L2.atI l (n : Int) with | some d => R.ok d S | none => .no)
    | some (.dic kvs) => if keyOk (.int (n : Int)) then match lookD (.int (n : Int)) kvs with | some d => .ok d S | none => .no else .no
    | _ => .no) = _
  rw [h]
  simp only [atI_nat, e]
theorem set_ref {r n : Nat} {l : List D} {v : D} {S : Store} (h : S[r]? = some (.lst l)) (hn : n < l.length) (hb : below r v = true) : setF (.ref r) (.int n) v S = .ok () (S.set r (.lst (l.set n v))) := by
  show (match S[r]? with
    | some (.lst l) => (match L2.ixN l.length (n : Int) with | some j => if below r v then R.ok () (S.set r (.lst (l.set j v))) else .no | none => .no)
    | some (.dic kvs) => if keyOk (.int (n : Int)) && decide (kvs.length < LINE) && below r v then .ok () (S.set r (.dic (putD (.int (n : Int)) v kvs))) else .no
    | _ => .no) = _
  rw [h]
  have e : L2.ixN l.length (n : Int) = some n := by
    unfold L2.ixN
    rw [if_pos (Int.natCast_nonneg n), if_pos (by omega)]
    simp
  simp only [e, hb, if_true]
/-- a column as far as it is reckoned: rows from m on -/
def col (rows : List (Th × List Nat)) (fs : List (Int × Int)) (g : Ent → Int × Int) (m : Nat) : List D := (List.replicate m (0, 1) ++ (ents (rows.drop m) (fs.drop m) m).map g).map fr
theorem col_len {rows : List (Th × List Nat)} {fs : List (Int × Int)} {g : Ent → Int × Int} {m : Nat} (h : m ≤ rows.length) : (col rows fs g m).length = rows.length := by
  unfold col
  simp [ents_len]
  omega
theorem col_at {rows : List (Th × List Nat)} {fs : List (Int × Int)} {g : Ent → Int × Int} {m p : Nat} (hp : m ≤ p) (h : p < rows.length) : (col rows fs g m)[p]? = some (fr (g ((ents (rows.drop m) (fs.drop m) m).getD (p - m) ent0))) := by
  unfold col
  have hl : p - m < (ents (rows.drop m) (fs.drop m) m).length := by rw [ents_len]; simp; omega
  rw [List.getElem?_map, List.getElem?_append_right (by simp; omega), List.length_replicate, List.getElem?_map, List.getD_eq_getElem?_getD, List.getElem?_eq_getElem hl]
  rfl
theorem col_set {rows : List (Th × List Nat)} {fs : List (Int × Int)} {g : Ent → Int × Int} {m : Nat} {r : Th × List Nat} {f : Int × Int} (hr : rows[m]? = some r) (hf : fs[m]? = some f) {v : D}
    (hv : v = fr (g (entOf r.1 f (r.2.map fun p => (ents (rows.drop (m + 1)) (fs.drop (m + 1)) (m + 1)).getD (p - (m + 1)) ent0)))) : (col rows fs g (m + 1)).set m v = col rows fs g m := by
  have h1 : m < rows.length := (List.getElem?_eq_some_iff.mp hr).1
  have h2 : m < fs.length := (List.getElem?_eq_some_iff.mp hf).1
  have e1 : rows.drop m = r :: rows.drop (m + 1) := by
    rw [List.drop_eq_getElem_cons h1]; congr 1; exact (List.getElem?_eq_some_iff.mp hr).2
  have e2 : fs.drop m = f :: fs.drop (m + 1) := by
    rw [List.drop_eq_getElem_cons h2]; congr 1; exact (List.getElem?_eq_some_iff.mp hf).2
  unfold col
  rw [e1, e2, ents]
  subst hv
  rw [List.replicate_succ', List.append_assoc, List.map_append, List.map_append, List.set_append_right _ _ (by simp)]
  simp
end
end Pf

set_option linter.all false
set_option Elab.async false
set_option maxRecDepth 100000
set_option maxHeartbeats 2000000
set_option autoImplicit false
/-! PfC2: the program's reckoning, the loop -/
namespace Pf
mutual
theorem Th.rows_size : ∀ {t : Th} {b : Nat}, ∀ r ∈ t.rows b, r.1.size ≤ t.size
  | .raw _ _ _, _, r, hr => by
    rw [Th.rows, List.mem_singleton] at hr
    subst hr; exact Nat.le_refl _
  | .made h lo hi s w o ps, b, r, hr => by
    rw [Th.rows] at hr
    rcases List.mem_cons.mp hr with rfl | hr
    · exact Nat.le_refl _
    · have := Th.rowss_size r hr
      rw [Th.size]; omega
theorem Th.rowss_size : ∀ {ts : List Th} {b : Nat}, ∀ r ∈ Th.rowss ts b, r.1.size ≤ Th.sizes ts
  | [], _, r, hr => by rw [Th.rowss] at hr; cases hr
  | t :: ts, b, r, hr => by
    rw [Th.rowss] at hr
    rw [Th.sizes]
    rcases List.mem_append.mp hr with hr | hr
    · have := Th.rows_size r hr; omega
    · have := Th.rowss_size r hr; omega
end
theorem PartsAt.mem {rows : List (Th × List Nat)} {b : Nat} : ∀ {us : List Th} {ps : List Nat}, PartsAt rows b us ps → ∀ p ∈ ps, b ≤ p ∧ p - b < rows.length
  | _, _, .nil, _, h => by cases h
  | _, _, .cons h e t, p, hp => by
    rcases List.mem_cons.mp hp with rfl | hp
    · exact ⟨h, (List.getElem?_eq_some_iff.mp e).1⟩
    · exact PartsAt.mem t p hp
section
variable {S : Store} {k : Nat}
abbrev body10 : St := (.seq (.asg (.tup [(.name 7), (.name 8)]) (.idx (.var 2) (.var 6)))
    (.seq (.asg (.sub (.var 3) (.var 6)) (.call 8 (.cons (.idx (.var 1) (.var 6)) (.cons (.call 9 (.cons (.comp false [10] (.name 10) (.seq (.var 8)) .none (.idx (.var 3) (.var 10))) .nil)) .nil))))
    (.seq (.asg (.name 9) (.ite (.cmp .eq (.idx (.var 7) (.con (.int 1))) (.con (.str [104, 101, 114, 101]))) (.idx (.var 1) (.var 6)) (.tup (.cons (.con (.int 0)) (.cons (.con (.int 1)) .nil)))))
    (.seq (.asg (.sub (.var 4) (.var 6)) (.call 8 (.cons (.var 9) (.cons (.call 9 (.cons (.comp false [10] (.name 10) (.seq (.var 8)) .none (.idx (.var 5) (.var 10))) .nil)) .nil))))
    (.seq (.asg (.sub (.var 5) (.var 6)) (.call 7 (.cons (.var 7) (.cons (.idx (.var 4) (.var 6)) (.cons (.idx (.var 3) (.var 6)) .nil)))))
    .skip)))))
/-- a column's items at the parts -/
theorem comp_col {cl : Nat → List D → M D} {ps : List Nat} {i r : Nat} {ρ : Ev} {l : List D} {y : Nat → Int × Int} (hlen : ρ.length = 11) (hi : i < 10) (hv : ρ[i]? = some (some (.ref r))) (hS : S[r]? = some (.lst l)) (hl : ∀ p ∈ ps, l[p]? = some (fr (y p))) :
    collect (turnF cl (.name 10) [10] .none (.idx (.var i) (.var 10)) ρ) (ps.map natD) S = .ok (ps.map fun p => fr (y p)) S := by
  refine collect_maps fun p hp => ?_
  have hb : bindP (.name 10) (natD p) (wipeE ρ [10]) = some ((wipeE ρ [10]).set 10 (some (natD p))) := by
    rw [bindP, if_pos (by simp [wipeE, hlen])]
  have e1 : ((wipeE ρ [10]).set 10 (some (natD p)))[i]? = some (some (.ref r)) := by
    simp only [wipeE]
    rw [List.getElem?_set_ne (by omega), List.getElem?_set_ne (by omega), hv]
  have e2 : ((wipeE ρ [10]).set 10 (some (natD p)))[10]? = some (some (natD p)) := by
    simp only [wipeE]
    rw [List.getElem?_set_self (by simp [hlen])]
  rw [turn_run hb]
  simp only [evC_none, rb_ok, if_true, ev_idx, ev_var, e1, e2, varR_some]
  rw [show natD p = .int (p : Nat) from rfl, idx_ref hS (hl p hp)]
  rfl
end
end Pf

set_option linter.all false
set_option Elab.async false
set_option maxRecDepth 100000
set_option maxHeartbeats 4000000
set_option autoImplicit false
/-! PfC3: the program's reckoning, the loop -/
namespace Pf
theorem PricesOk.drop : ∀ {rs : List (Th × List Nat)} {fs : List (Int × Int)} (n : Nat), PricesOk rs fs → PricesOk (rs.drop n) (fs.drop n)
  | rs, fs, 0, h => by simpa using h
  | [], [], n + 1, h => trivial
  | r :: rs, f :: fs, n + 1, h => by simpa using PricesOk.drop n h.2
  | [], _ :: _, _ + 1, h => h.elim
  | _ :: _, [], _ + 1, h => h.elim
theorem PartsAt.len {rows : List (Th × List Nat)} {b : Nat} : ∀ {us : List Th} {ps : List Nat}, PartsAt rows b us ps → us.length = ps.length
  | _, _, .nil => rfl
  | _, _, .cons _ _ t => by rw [List.length_cons, List.length_cons, PartsAt.len t]
theorem csum_fb {n : Nat} {cs : List (Int × Int)} (h : Fbs n cs) : Fb n (csum (0, 1) cs) := by
  have z := csum_eq (p := 0) (q := 1) (by decide) h
  have z2 : can 0 1 = (0, 1) := by decide
  rw [z2] at z
  rw [z]
  have := usum_fb Fb.zero h
  rw [Nat.zero_add] at this
  exact Fb.can this
section
variable {S : Store} {k : Nat}
theorem col_self {rows : List (Th × List Nat)} {fs : List (Int × Int)} {g : Ent → Int × Int} {m : Nat} {r : Th × List Nat} {f : Int × Int} (hr : rows[m]? = some r) (hf : fs[m]? = some f) :
    (col rows fs g m)[m]? = some (fr (g (entOf r.1 f (r.2.map fun p => (ents (rows.drop (m + 1)) (fs.drop (m + 1)) (m + 1)).getD (p - (m + 1)) ent0)))) := by
  have h1 : m < rows.length := (List.getElem?_eq_some_iff.mp hr).1
  rw [← col_set (g := g) hr hf rfl, List.getElem?_set_self (by rw [col_len (by omega)]; exact h1)]
theorem reck_loop {t : Th} {fs : List (Int × Int)} {v0 : Option D} (hk : t.ok) (hs : t.size ≤ 10) (hp : PricesOk (t.rows 0) fs) : ∀ (m : Nat), m ≤ (t.rows 0).length → ∀ (w6 w7 w8 w9 w10 : Option D),
    ∃ u6 u7 u8 u9 u10, forF (bodyF (callF FF (k + 5)) (.name 6) body10) (stepped ((m : Int) - 1) (-1) m) [v0, some (.tup (fs.map fr)), some (.lst ((t.rows 0).map rowP)), some (.ref S.length), some (.ref (S.length + 1)), some (.ref (S.length + 2)), w6, w7, w8, w9, w10]
        (S ++ [.lst (col (t.rows 0) fs (·.cost) m), .lst (col (t.rows 0) fs (·.own) m), .lst (col (t.rows 0) fs (·.cnt) m)]) =
      .ok (.nx [v0, some (.tup (fs.map fr)), some (.lst ((t.rows 0).map rowP)), some (.ref S.length), some (.ref (S.length + 1)), some (.ref (S.length + 2)), u6, u7, u8, u9, u10])
        (S ++ [.lst (col (t.rows 0) fs (·.cost) 0), .lst (col (t.rows 0) fs (·.own) 0), .lst (col (t.rows 0) fs (·.cnt) 0)]) := by
  intro m
  induction m with
  | zero => intro _ w6 w7 w8 w9 w10; exact ⟨w6, w7, w8, w9, w10, rfl⟩
  | succ m ih =>
    intro hm w6 w7 w8 w9 w10
    obtain ⟨⟨u, ps⟩, hr⟩ : ∃ r, (t.rows 0)[m]? = some r := ⟨_, List.getElem?_eq_getElem (by omega)⟩
    obtain ⟨f, hf, hpr⟩ := hp.get hr
    have hmem := List.mem_of_getElem? hr
    have hu := Th.rows_ok hk _ hmem
    have husz : u.size ≤ 10 := Nat.le_trans (Th.rows_size _ hmem) hs
    obtain ⟨hpa0, hgt⟩ := Th.rows_at t 0 m u ps hr
    have hpa := hpa0.drop (j := m) fun p hp => by have := hgt p hp; omega
    have hw := well_drop t ((t.rows 0).length - (m + 1)) (m + 1) (by omega)
    have hef := ents_fb hw (fun r hr => Th.rows_ok hk r (List.mem_of_mem_drop hr)) (hp.drop (m + 1))
    obtain ⟨q1, q2⟩ := parts_fb hef hpa
    have hsz := Th.size_parts u
    have hfb := price_fb hu hpr
    have hpl : ∀ p ∈ ps, m + 1 ≤ p ∧ p < (t.rows 0).length := fun p hp => by
      have := hpa.mem p hp
      rw [List.length_drop] at this
      omega
    generalize hes : (ps.map fun p => (ents ((t.rows 0).drop (m + 1)) (fs.drop (m + 1)) (m + 1)).getD (p - (m + 1)) ent0) = es at q1 q2
    have hent := entOf_fb (u := u) hfb q1 q2
    have y1 : ps.map (fun p => fr ((ents ((t.rows 0).drop (m + 1)) (fs.drop (m + 1)) (m + 1)).getD (p - (m + 1)) ent0).cost) = (es.map (·.cost)).map fr := by rw [← hes]; simp
    have y2 : ps.map (fun p => fr ((ents ((t.rows 0).drop (m + 1)) (fs.drop (m + 1)) (m + 1)).getD (p - (m + 1)) ent0).cnt) = (es.map (·.cnt)).map fr := by rw [← hes]; simp
    have cs1 := fun (ρ : Ev) h1 h2 => comp_col (S := S ++ [.lst (col (t.rows 0) fs (·.cost) (m + 1)), .lst (col (t.rows 0) fs (·.own) (m + 1)), .lst (col (t.rows 0) fs (·.cnt) (m + 1))]) (cl := callF FF (k + 5)) (ps := ps) (i := 3) (ρ := ρ) (y := fun p => ((ents ((t.rows 0).drop (m + 1)) (fs.drop (m + 1)) (m + 1)).getD (p - (m + 1)) ent0).cost) h1 (by decide) h2 thr0 (fun p hp => col_at (hpl p hp).1 (hpl p hp).2)
    have cs2 := fun (ρ : Ev) h1 h2 => comp_col (S := S ++ [.lst (col (t.rows 0) fs (·.cost) m), .lst (col (t.rows 0) fs (·.own) (m + 1)), .lst (col (t.rows 0) fs (·.cnt) (m + 1))]) (cl := callF FF (k + 5)) (ps := ps) (i := 5) (ρ := ρ) (y := fun p => ((ents ((t.rows 0).drop (m + 1)) (fs.drop (m + 1)) (m + 1)).getD (p - (m + 1)) ent0).cnt) h1 (by decide) h2 thr2 (fun p hp => col_at (hpl p hp).1 (hpl p hp).2)
    have hpl2 : ps.length ≤ LINE := by
      have h1 := hpa.len
      have h2 := Th.len_sizes u.parts
      unfold LINE; omega
    have hz1 : ∀ (S : Store) (kk : Store → R D), szR ((es.map (·.cost)).map fr) S kk = kk S := fun S kk => if_pos (by rw [← hes]; simpa using hpl2)
    have hz2 : ∀ (S : Store) (kk : Store → R D), szR ((es.map (·.cnt)).map fr) S kk = kk S := fun S kk => if_pos (by rw [← hes]; simpa using hpl2)
    have iR : ∀ S, idxF (.lst ((t.rows 0).map rowP)) (.int (m : Int)) S = .ok (.tup [u.d, .tup (ps.map natD)]) S := fun S => idxF_l (by rw [List.getElem?_map, hr]; rfl)
    have iP : ∀ S, idxF (.tup (fs.map fr)) (.int (m : Int)) S = .ok (fr f) S := fun S => idx_row hf
    have s1 : ∀ S, callF FF (k + 5) 9 [.lst ((es.map (·.cost)).map fr)] S = .ok (fr (csum (0, 1) (es.map (·.cost)))) S := fun S => summed_ok (k := k + 1) q1 (by omega)
    have s2 : ∀ S, callF FF (k + 5) 9 [.lst ((es.map (·.cnt)).map fr)] S = .ok (fr (csum (0, 1) (es.map (·.cnt)))) S := fun S => summed_ok (k := k + 1) q2 (by omega)
    have hmine : Fb 1 (mine u f) := by unfold mine; split; exact hfb; exact Fb.zero.mono (Nat.zero_le _)
    have p1 : ∀ S, callF FF (k + 5) 8 [fr f, fr (csum (0, 1) (es.map (·.cost)))] S = .ok (fr (entOf u f es).cost) S := fun S => by
      rw [plus_fb (k := k + 2) hfb (csum_fb q1) (by omega)]
      exact congrArg (fun z => R.ok (fr z) S) (prog_sum hfb.q0 q1)
    have p2 : ∀ S, callF FF (k + 5) 8 [fr (mine u f), fr (csum (0, 1) (es.map (·.cnt)))] S = .ok (fr (entOf u f es).own) S := fun S => by
      rw [plus_fb (k := k + 2) hmine (csum_fb q2) (by omega)]
      exact congrArg (fun z => R.ok (fr z) S) (prog_sum hmine.q0 q2)
    have p3 : ∀ S, callF FF (k + 5) 7 [u.d, fr (entOf u f es).own, fr (entOf u f es).cost] S = .ok (fr (entOf u f es).cnt) S := fun S => counts_of_ok (k := k) hu hent.own hent.cost (by omega) (by omega)
    have lc : ∀ g, m < (col (t.rows 0) fs g (m + 1)).length := fun g => by rw [col_len hm]; omega
    have w1 := set_ref (S := S ++ [.lst (col (t.rows 0) fs (·.cost) (m + 1)), .lst (col (t.rows 0) fs (·.own) (m + 1)), .lst (col (t.rows 0) fs (·.cnt) (m + 1))]) (v := fr (entOf u f es).cost) thr0 (lc _) rfl
    rw [thr0s, col_set (g := (·.cost)) hr hf (by rw [hes])] at w1
    have w2 := set_ref (S := S ++ [.lst (col (t.rows 0) fs (·.cost) m), .lst (col (t.rows 0) fs (·.own) (m + 1)), .lst (col (t.rows 0) fs (·.cnt) (m + 1))]) (v := fr (entOf u f es).own) thr1 (lc _) rfl
    rw [thr1s, col_set (g := (·.own)) hr hf (by rw [hes])] at w2
    have w3 := set_ref (S := S ++ [.lst (col (t.rows 0) fs (·.cost) m), .lst (col (t.rows 0) fs (·.own) m), .lst (col (t.rows 0) fs (·.cnt) (m + 1))]) (v := fr (entOf u f es).cnt) thr2 (lc _) rfl
    rw [thr2s, col_set (g := (·.cnt)) hr hf (by rw [hes])] at w3
    have x1 : idxF (.ref (S.length + 1)) (.int (m : Int)) (S ++ [.lst (col (t.rows 0) fs (·.cost) m), .lst (col (t.rows 0) fs (·.own) m), .lst (col (t.rows 0) fs (·.cnt) (m + 1))]) = .ok (fr (entOf u f es).own) _ := idx_ref thr1 (by rw [col_self hr hf, hes])
    have x2 : idxF (.ref S.length) (.int (m : Int)) (S ++ [.lst (col (t.rows 0) fs (·.cost) m), .lst (col (t.rows 0) fs (·.own) m), .lst (col (t.rows 0) fs (·.cnt) (m + 1))]) = .ok (fr (entOf u f es).cost) _ := idx_ref thr0 (by rw [col_self hr hf, hes])
    have cl1 : ∀ S, cmpF .eq (landD u.here) (.str [104, 101, 114, 101]) S = .ok (.bl u.here) S := fun S => by cases u.here <;> rfl
    obtain ⟨u6, u7, u8, u9, u10, e⟩ := ih (by omega) (some (.int (m : Int))) (some u.d) (some (.tup (ps.map natD))) (some (fr (mine u f))) w10
    refine ⟨u6, u7, u8, u9, u10, ?_⟩
    rw [stepped, show (((m + 1 : Nat) : Int) - 1) = (m : Int) by omega, show (m : Int) + -1 = (m : Int) - 1 by omega, forF_cons, bodyF_name (by simp)]
    have c1 := cs1 [v0, some (.tup (fs.map fr)), some (.lst ((t.rows 0).map rowP)), some (.ref S.length), some (.ref (S.length + 1)), some (.ref (S.length + 2)), some (.int (m : Int)), some u.d, some (.tup (ps.map natD)), w9, w10] rfl rfl
    have c2 := cs2 [v0, some (.tup (fs.map fr)), some (.lst ((t.rows 0).map rowP)), some (.ref S.length), some (.ref (S.length + 1)), some (.ref (S.length + 2)), some (.int (m : Int)), some u.d, some (.tup (ps.map natD)), some (fr (mine u f)), w10] rfl rfl
    rw [y1] at c1
    rw [y2] at c2
    clear y1 y2 cs1 cs2
    generalize hCL : (es.map (·.cost)).map fr = CL at c1 hz1 s1
    generalize hDL : (es.map (·.cnt)).map fr = DL at c2 hz2 s2
    cases hh : u.here with
    | true =>
      have hmi : mine u f = f := by unfold mine; rw [hh]; rfl
      rw [hmi] at c2 p2 e
      rw [hh] at cl1
      simp [body10, iR, iP, c1, hz1, s1, p1, w1, idx_land, hh, cl1, c2, hz2, s2, p2, w2, x1, x2, p3, w3]
      exact e
    | false =>
      have hmi : mine u f = (0, 1) := by unfold mine; rw [hh]; rfl
      rw [hmi] at c2 p2 e
      have h01 : fr (0, 1) = .tup [.int 0, .int 1] := rfl
      rw [h01] at c2 p2 e
      rw [hh] at cl1
      simp [body10, iR, iP, c1, hz1, s1, p1, w1, idx_land, hh, cl1, c2, hz2, s2, p2, w2, x1, x2, p3, w3]
      exact e
end
end Pf

set_option linter.all false
set_option Elab.async false
set_option maxRecDepth 100000
set_option maxHeartbeats 4000000
set_option autoImplicit false
/-! PfC4: reckoned -/
namespace Pf
section
variable {S : Store} {k : Nat}
theorem fz_new {S' : Store} {b n : Nat} {l : List D} (h : S'[n]? = some (.lst l)) (hb : b ≤ n) (hl : belows b l = true) : fz S' b (.ref n) = some (.lst l) := by
  show (if n < b then some (D.ref n) else match S'[n]? with
    | some (.lst l) => if belows b l = true then some (.lst l) else none
    | _ => none) = _
  rw [if_neg (by omega), h]
  simp only [hl, if_true]
theorem finR_three {a b c : List D} (ha : belows S.length a = true) (hb : belows S.length b = true) (hc : belows S.length c = true) :
    finR true S.length (.ok (.rt (.tup [.ref S.length, .ref (S.length + 1), .ref (S.length + 2)])) (S ++ [.lst a, .lst b, .lst c])) = .ok (.tup [.lst a, .lst b, .lst c]) S := by
  show finF true S.length _ _ = _
  unfold finF
  have e : fz (S ++ [.lst a, .lst b, .lst c]) S.length (.tup [.ref S.length, .ref (S.length + 1), .ref (S.length + 2)]) = some (.tup [.lst a, .lst b, .lst c]) := by
    show (fzs _ _ [.ref S.length, .ref (S.length + 1), .ref (S.length + 2)]).map D.tup = _
    have e1 := fz_new (S' := S ++ [.lst a, .lst b, .lst c]) thr0 (Nat.le_refl _) ha
    have e2 := fz_new (S' := S ++ [.lst a, .lst b, .lst c]) (b := S.length) thr1 (by omega) hb
    have e3 := fz_new (S' := S ++ [.lst a, .lst b, .lst c]) (b := S.length) thr2 (by omega) hc
    simp only [fzs, e1, e2, e3, Option.map_some]
  simp only [if_true, e, List.take_left]
theorem belows_fr {b : Nat} (l : List (Int × Int)) : belows b (l.map fr) = true := belows_of fun x hx => by
  obtain ⟨f, _, rfl⟩ := List.mem_map.mp hx
  rfl
theorem opL_rep {x : D} {n : Nat} (hn : n ≤ 1000) : opL .mul (.lst [x]) (.int (n : Int)) S = .ok (.ref S.length) (S ++ [.lst (List.replicate n x)]) := by
  show (match some [x], D.int (n : Int) with
    | some xs, .int k => if xs.length * k.toNat ≤ LINE ∧ k < 2 ^ 60 ∧ -(2 ^ 60) < k then alloc (.lst (List.replicate k.toNat xs).flatten) S else .no
    | _, _ => .no) = _
  simp only
  rw [if_pos ⟨by simp; unfold LINE; omega, by omega, by omega⟩]
  have e : (List.replicate n [x]).flatten = List.replicate n x := by
    induction n with
    | zero => rfl
    | succ n ih => rw [List.replicate_succ, List.flatten_cons, ih (by omega), List.replicate_succ]; rfl
  rw [Int.toNat_natCast, e]
  rfl
theorem col_full {rows : List (Th × List Nat)} {fs : List (Int × Int)} {g : Ent → Int × Int} : col rows fs g rows.length = List.replicate rows.length (fr (0, 1)) := by
  unfold col
  rw [List.drop_length, ents]
  simp
theorem col_zero {rows : List (Th × List Nat)} {fs : List (Int × Int)} {g : Ent → Int × Int} : col rows fs g 0 = ((ents rows fs 0).map g).map fr := by
  unfold col
  simp
theorem small_of {i : Int} (h0 : -100 ≤ i) (h1 : i ≤ 100000) : small i = true := by
  unfold small
  rw [decide_eq_true (show -(2 ^ 24) ≤ i by omega), decide_eq_true (show i ≤ 2 ^ 24 by omega)] <;> rfl
theorem reckoned_ok {t : Th} {fs : List (Int × Int)} (hk : t.ok) (hs : t.size ≤ 10) (hp : PricesOk (t.rows 0) fs) : callF FF (k + 12) 10 [t.d, .tup (fs.map fr)] S =
    .ok (.tup [.lst (((ents (t.rows 0) fs 0).map (·.cost)).map fr), .lst (((ents (t.rows 0) fs 0).map (·.own)).map fr), .lst (((ents (t.rows 0) fs 0).map (·.cnt)).map fr)]) S := by
  have hlen : (t.rows 0).length ≤ 10 := by rw [Th.rows_len]; exact hs
  have e1 := numbered_ok (k := k) (N := 10) (S := S) hs (by decide) hk
  obtain ⟨u6, u7, u8, u9, u10, e2⟩ := reck_loop (k := k + 6) (S := S) (v0 := some t.d) hk hs hp (t.rows 0).length (Nat.le_refl _) none none none none none
  rw [col_full, col_full, col_full, col_zero, col_zero, col_zero] at e2
  have r1 : ∀ S, opL .mul (.lst [.tup [.int 0, .int 1]]) (.int ((t.rows 0).length : Int)) S = .ok (.ref S.length) (S ++ [.lst (List.replicate (t.rows 0).length (fr (0, 1)))]) := fun S => opL_rep (by omega)
  have s1 : small (((t.rows 0).length : Int) - 1) = true := small_of (by omega) (by omega)
  have s2 : small (-1) = true := by decide
  have st : (((t.rows 0).length : Int) - 1 - -1).toNat = (t.rows 0).length := by omega
  rw [call_eq F_10 rfl]
  simp only [Nat.add_assoc, Nat.reduceAdd] at e1 e2
  generalize hA : ((ents (t.rows 0) fs 0).map (·.cost)).map fr = A at e2 ⊢
  generalize hB : ((ents (t.rows 0) fs 0).map (·.own)).map fr = B at e2 ⊢
  generalize hC : ((ents (t.rows 0) fs 0).map (·.cnt)).map fr = C at e2 ⊢
  generalize hRP : (t.rows 0).map rowP = RP at e1 e2
  have hRPl : RP.length = (t.rows 0).length := by rw [← hRP, List.length_map]
  generalize hZ : List.replicate (t.rows 0).length (fr (0, 1)) = Z at e2 r1
  simp [f10, e1, hRPl, r1, s1, s2, st]
  rw [e2]
  simp
  rw [finR_three]
  · rw [← hA]; exact belows_fr _
  · rw [← hB]; exact belows_fr _
  · rw [← hC]; exact belows_fr _
end
end Pf

set_option linter.all false
set_option Elab.async false
set_option maxRecDepth 100000
set_option maxHeartbeats 4000000
set_option autoImplicit false
/-! PfC5: costs, owns, counted, portion -/
namespace Pf
section
variable {S : Store} {k : Nat}
theorem below_frs {b : Nat} (l : List (Int × Int)) : below b (.tup (l.map fr)) = true := belows_fr l
theorem tuple_lst {l : List D} : biF .tuple [.lst l] S = .ok (.tup l) S := rfl
theorem costs_ok {t : Th} {fs : List (Int × Int)} (h : Good t) (hp : PricesOk (t.rows 0) fs) : callF FF (k + 15) 30 [t.d, .tup (fs.map fr)] S = .ok (.tup (((ents (t.rows 0) fs 0).map (·.cost)).map fr)) S := by
  have e1 := need_priced_ok (k := k) (S := S) h hp
  have e2 := reckoned_ok (k := k + 2) (S := S) h.ok h.sz hp
  rw [call_eq F_30 rfl]
  simp only [Nat.add_assoc, Nat.reduceAdd] at e1 e2
  simp only [f30, ex_seq, ex_ex, ex_ret, ev_call, evs_cons, evs_nil, ev_var, ev_bi, ev_idx, ev_con, List.map_cons, List.map_nil, List.cons_append, List.nil_append, List.getElem?_cons_zero, List.getElem?_cons_succ, varR_some, rb_ok, flR_nx, flR_rt, e1, e2, idxF_t0, tuple_lst]
  rw [finR_rt (below_frs _), List.take_length]
theorem owns_ok {t : Th} {fs : List (Int × Int)} (h : Good t) (hp : PricesOk (t.rows 0) fs) : callF FF (k + 15) 29 [t.d, .tup (fs.map fr)] S = .ok (.tup (((ents (t.rows 0) fs 0).map (·.own)).map fr)) S := by
  have e1 := need_priced_ok (k := k) (S := S) h hp
  have e2 := reckoned_ok (k := k + 2) (S := S) h.ok h.sz hp
  rw [call_eq F_29 rfl]
  simp only [Nat.add_assoc, Nat.reduceAdd] at e1 e2
  simp only [f29, ex_seq, ex_ex, ex_ret, ev_call, evs_cons, evs_nil, ev_var, ev_bi, ev_idx, ev_con, List.map_cons, List.map_nil, List.cons_append, List.nil_append, List.getElem?_cons_zero, List.getElem?_cons_succ, varR_some, rb_ok, flR_nx, flR_rt, e1, e2, idxF_t1, tuple_lst]
  rw [finR_rt (below_frs _), List.take_length]
theorem counted_ok {t : Th} {fs : List (Int × Int)} (h : Good t) (hp : PricesOk (t.rows 0) fs) : callF FF (k + 15) 28 [t.d, .tup (fs.map fr)] S = .ok (.tup (((ents (t.rows 0) fs 0).map (·.cnt)).map fr)) S := by
  have e1 := need_priced_ok (k := k) (S := S) h hp
  have e2 := reckoned_ok (k := k + 2) (S := S) h.ok h.sz hp
  rw [call_eq F_28 rfl]
  simp only [Nat.add_assoc, Nat.reduceAdd] at e1 e2
  simp only [f28, ex_seq, ex_ex, ex_ret, ev_call, evs_cons, evs_nil, ev_var, ev_bi, ev_idx, ev_con, List.map_cons, List.map_nil, List.cons_append, List.nil_append, List.getElem?_cons_zero, List.getElem?_cons_succ, varR_some, rb_ok, flR_nx, flR_rt, e1, e2, idxF_t2, tuple_lst]
  rw [finR_rt (below_frs _), List.take_length]
end
end Pf

set_option linter.all false
set_option Elab.async false
set_option maxRecDepth 100000
set_option maxHeartbeats 4000000
set_option autoImplicit false
/-! PfC6: the words -/
namespace Pf
def Th.share : Th → Int
  | .raw _ _ _ => 0
  | .made _ _ _ s _ _ _ => s
/-- a step's word -/
def wordI (u : Th) (e : Ent) : Int := if enough u.share e.own e.cost then 1 else 0
/-- the words of the rows, their entries beside them -/
def words : List (Th × List Nat) → List Ent → List Int
  | [], _ => []
  | _ :: _, [] => []
  | r :: rs, e :: es => if r.1.isMade then wordI r.1 e :: words rs es else words rs es
def isStep (i : Nat) (r : Th × List Nat) : Option D := if r.1.isMade then some (.tup [natD i, r.1.d]) else none
section
variable {S : Store} {k : Nat}
theorem words_collect {f : D → M (Option D)} {all : List Ent} : ∀ (rs : List (Th × List Nat)) (es : List Ent) (i : Nat), all.drop i = es → es.length = rs.length →
    (∀ (j : Nat) (r : Th × List Nat) (e : Ent), r ∈ rs → all[j]? = some e → r.1.isMade = true → (∃ j', rs[j']? = some r ∧ j = i + j') → f (.tup [natD j, r.1.d]) S = .ok (some (.int (wordI r.1 e))) S) →
    collect f (enumFM isStep i rs) S = .ok ((words rs es).map D.int) S := by
  intro rs
  induction rs with
  | nil => intro es i _ _ _; cases es <;> rfl
  | cons r rs ih =>
    intro es i hd hl h
    cases es with
    | nil => simp at hl
    | cons e es =>
      have he : all[i]? = some e := by
        have := List.getElem?_drop (xs := all) (i := i) (j := 0)
        rw [hd] at this
        simpa using this.symm
      have hd2 : all.drop (i + 1) = es := by
        have := congrArg List.tail hd
        simpa [List.tail_drop] using this
      have ih' := ih es (i + 1) hd2 (by simpa using hl) (fun j r' e' hr' he' hm' ⟨j', g1, g2⟩ => h j r' e' (List.mem_cons_of_mem _ hr') he' hm' ⟨j' + 1, by simpa using g1, by omega⟩)
      rw [enumFM, words]
      by_cases hm : r.1.isMade = true
      · simp only [isStep, hm, if_true, Option.toList_some, List.singleton_append]
        rw [collect_run, h i r e List.mem_cons_self he hm ⟨0, rfl, rfl⟩, rb_ok, ih', rb_ok]
        rfl
      · simp only [Bool.not_eq_true] at hm
        simp only [isStep, hm]
        exact ih'
theorem idx_share {u : Th} (h : u.isMade = true) : ∃ w o, idxF u.d (.int 4) S = .ok (termD u.share w o) S := by
  cases u with
  | raw => cases h
  | made hh lo hi s w o ps => exact ⟨w, o, by rw [Th.d]; simp [Th.share]⟩
theorem Th.share_ok {u : Th} (h : u.ok) : 0 ≤ u.share ∧ u.share ≤ 100 := by
  cases u with
  | raw => simp [Th.share]
  | made hh lo hi s w o ps => exact (show (0 ≤ lo ∧ lo ≤ hi ∧ hi ≤ 1000000) ∧ (0 ≤ s ∧ s ≤ 100) ∧ (1 ≤ ps.length ∧ ps.length ≤ 4) ∧ Th.oks ps by simpa only [Th.ok] using h).2.1
theorem enumFM_len {g : Nat → Th × List Nat → Option D} : ∀ (l : List (Th × List Nat)) (i : Nat), (enumFM g i l).length ≤ l.length
  | [], _ => Nat.le_refl _
  | r :: rs, i => by
    rw [enumFM, List.length_append, List.length_cons]
    have := enumFM_len (g := g) rs (i + 1)
    have : (g i r).toList.length ≤ 1 := by cases g i r <;> simp
    omega
theorem words_len : ∀ (rs : List (Th × List Nat)) (es : List Ent), (words rs es).length ≤ rs.length
  | [], es => by cases es <;> exact Nat.le_refl _
  | _ :: _, [] => Nat.zero_le _
  | r :: rs, e :: es => by
    rw [words]
    have := words_len rs es
    split <;> simp <;> omega
theorem words_for_ok {t : Th} {fs : List (Int × Int)} (hk : t.ok) (hs : t.size ≤ 10) (hp : PricesOk (t.rows 0) fs) : callF FF (k + 13) 11 [t.d, .tup (fs.map fr)] S = .ok (.tup ((words (t.rows 0) (ents (t.rows 0) fs 0)).map D.int)) S := by
  have hlen : (t.rows 0).length ≤ 10 := by rw [Th.rows_len]; exact hs
  have e1 := reckoned_ok (k := k) (S := S) hk hs hp
  have e2 := numbered_ok (k := k + 1) (N := 10) (S := S) hs (by decide) hk
  have hef := ents_fb (Th.well t) (Th.rows_ok hk) hp
  rw [call_eq F_11 rfl]
  simp only [Nat.add_assoc, Nat.reduceAdd] at e1 e2
  generalize hE : ents (t.rows 0) fs 0 = es at e1 hef ⊢
  have hel : es.length = (t.rows 0).length := by rw [← hE, ents_len]
  generalize hA : (es.map (·.cost)).map fr = A at e1
  generalize hB : (es.map (·.own)).map fr = B at e1
  generalize hC : (es.map (·.cnt)).map fr = C at e1
  have c1 : collect (turnF (callF FF (k + 12)) (.tup [(.name 6), (.tup [(.name 7), (.name 8)])]) [6, 7, 8] (.some (.cmp .eq (.idx (.var 7) (.con (.int 0))) (.con (.str [109, 97, 100, 101])))) (.tup (.cons (.var 6) (.cons (.var 7) .nil))) [some t.d, some (.tup (fs.map fr)), some (.lst A), some (.lst B), some (.lst C), none, none, none, none]) (enumFrom 0 ((t.rows 0).map rowP)) S = .ok (enumFM isStep 0 (t.rows 0)) S := by
    refine collect_enum fun i r _ => ?_
    have hb : bindP (.tup [(.name 6), (.tup [(.name 7), (.name 8)])]) (.tup [.int (i : Nat), rowP r]) (wipeE [some t.d, some (.tup (fs.map fr)), some (.lst A), some (.lst B), some (.lst C), none, none, none, none] [6, 7, 8]) =
        some [some t.d, some (.tup (fs.map fr)), some (.lst A), some (.lst B), some (.lst C), none, some (.int i), some r.1.d, some (.tup (r.2.map natD))] := by
      simp [bindP, bindPs, rowP, wipeE]
    have cm : cmpF .eq (.str (if r.1.isMade = true then sMade else sRaw)) (.str [109, 97, 100, 101]) S = .ok (.bl r.1.isMade) S := by cases r.1.isMade <;> rfl
    rw [turn_run hb]
    cases hm : r.1.isMade with
    | true => rw [hm] at cm; simp [idx_kind, hm] at cm ⊢; simp [cm, isStep, hm, natD]
    | false => rw [hm] at cm; simp [idx_kind, hm] at cm ⊢; simp [cm, isStep, hm]
  have c2 : collect (turnF (callF FF (k + 12)) (.tup [(.name 6), (.name 7)]) [6, 7] .none (.bi .int (.cons (.call 4 (.cons (.idx (.idx (.var 7) (.con (.int 4))) (.con (.int 0))) (.cons (.idx (.var 3) (.var 6)) (.cons (.idx (.var 2) (.var 6)) .nil)))) .nil)) [some t.d, some (.tup (fs.map fr)), some (.lst A), some (.lst B), some (.lst C), some (.lst (enumFM isStep 0 (t.rows 0))), none, none, none]) (enumFM isStep 0 (t.rows 0)) S = .ok ((words (t.rows 0) es).map D.int) S := by
    refine words_collect (all := es) (t.rows 0) es 0 rfl hel fun j r e hr he hm ⟨j', g1, g2⟩ => ?_
    have hj : j = j' := by omega
    subst hj
    have hb : bindP (.tup [(.name 6), (.name 7)]) (.tup [natD j, r.1.d]) (wipeE [some t.d, some (.tup (fs.map fr)), some (.lst A), some (.lst B), some (.lst C), some (.lst (enumFM isStep 0 (t.rows 0))), none, none, none] [6, 7]) =
        some [some t.d, some (.tup (fs.map fr)), some (.lst A), some (.lst B), some (.lst C), some (.lst (enumFM isStep 0 (t.rows 0))), some (natD j), some r.1.d, none] := by
      simp [bindP, bindPs, wipeE]
    obtain ⟨u, ps⟩ := r
    obtain ⟨e', z1, z2⟩ := hef j u ps g1
    have ee : e' = e := by rw [he] at z1; exact (Option.some.inj z1).symm
    subst ee
    have hu := Th.rows_ok hk _ hr
    have hsz : u.size ≤ 10 := Nat.le_trans (Th.rows_size _ hr) hs
    obtain ⟨w, o, hx⟩ := idx_share (S := S) hm
    have iB : idxF (.lst B) (natD j) S = .ok (fr e'.own) S := idxF_l (by rw [← hB, List.getElem?_map, List.getElem?_map, he]; rfl)
    have iA : idxF (.lst A) (natD j) S = .ok (fr e'.cost) S := idxF_l (by rw [← hA, List.getElem?_map, List.getElem?_map, he]; rfl)
    have en := is_enough_ok (k := k + 8) (S := S) z2.own z2.cost (by omega) (by omega) (Th.share_ok hu).1 (Th.share_ok hu).2
    simp only [Nat.add_assoc, Nat.reduceAdd] at en
    rw [turn_run hb]
    unfold termD at hx
    simp [hx, iB, iA, en, wordI]
  have hz1 : ∀ (S : Store) (kk : Store → R D), szR (enumFM isStep 0 (t.rows 0)) S kk = kk S := fun S kk => if_pos (by have := enumFM_len (g := isStep) (t.rows 0) 0; unfold LINE; omega)
  have hz2 : ∀ (S : Store) (kk : Store → R D), szR ((words (t.rows 0) es).map D.int) S kk = kk S := fun S kk => if_pos (by rw [List.length_map]; have := words_len (t.rows 0) es; unfold LINE; omega)
  generalize hX : enumFM isStep 0 (t.rows 0) = X at c1 c2 hz1
  generalize hW : (words (t.rows 0) es).map D.int = W at c2 hz2 ⊢
  simp [f11, e1, e2, c1, hz1, c2, hz2, tuple_lst]
  rw [finR_rt, List.take_length]
  rw [← hW]
  exact belows_of fun x hx => by
    obtain ⟨f, _, rfl⟩ := List.mem_map.mp hx
    rfl
end
end Pf

set_option linter.all false
set_option Elab.async false
set_option maxRecDepth 100000
set_option maxHeartbeats 4000000
set_option autoImplicit false
/-! PfC7: words_at, is_of_here, portion -/
namespace Pf
theorem usum_pos : ∀ {fs : List (Int × Int)} {n : Nat} {x : Int × Int}, 0 < x.1 → 0 < x.2 → Fbs n fs → 0 < (usum x fs).1
  | [], _, _, h, _, _ => h
  | f :: fs, _, x, h, h2, .cons h1 h3 => by
    refine usum_pos (x := uadd x f) ?_ (Int.mul_pos h2 h1.q0) h3
    have a := Int.mul_pos h h1.q0
    have b := Int.mul_nonneg h1.p0 (Int.le_of_lt h2)
    show 0 < x.1 * f.2 + f.1 * x.2
    omega
theorem can_pos1 {p q : Int} (hp : 0 < p) (hq : 0 < q) : 0 < (can p q).1 := by
  have h := can_1 (p := p) (q := q)
  have g := gcd_pos (p := p) hq
  rcases Int.lt_trichotomy (can p q).1 0 with h1 | h1 | h1
  · have : (can p q).1 * (p.gcd q : Int) < 0 := Int.mul_neg_of_neg_of_pos h1 (by omega)
    omega
  · rw [h1] at h; omega
  · exact h1
/-- the first entry -/
theorem ents_top {t : Th} {fs : List (Int × Int)} (h : Good t) (hp : PricesOk (t.rows 0) fs) : ∃ e es, ents (t.rows 0) fs 0 = e :: es ∧ EntFb 10 e ∧ 0 < e.cost.1 := by
  obtain ⟨ns, hr⟩ := Th.rows_head t 0
  obtain ⟨e, h1, h2⟩ := ents_fb (Th.well t) (Th.rows_ok h.ok) hp 0 t ns hr
  obtain ⟨f, hf, hpr⟩ := hp.get hr
  cases hE : ents (t.rows 0) fs 0 with
  | nil => rw [hE] at h1; cases h1
  | cons e' es =>
    rw [hE] at h1
    have ee : e' = e := by simpa using h1
    subst ee
    refine ⟨e', es, rfl, ⟨h2.cost.mono h.sz, h2.own.mono h.sz, h2.cnt.mono h.sz⟩, ?_⟩
    cases hrows : t.rows 0 with
    | nil => rw [hrows] at hr; cases hr
    | cons r rs =>
      cases hfs : fs with
      | nil => rw [hfs] at hf; cases hf
      | cons f' fs' =>
        rw [hfs] at hf
        have ef : f' = f := by simpa using hf
        subst ef
        have hw := Th.well t
        have hok := Th.rows_ok (b := 0) h.ok
        rw [hrows] at hE hr hw hok
        rw [hrows, hfs] at hp
        rw [hfs, ents] at hE
        obtain ⟨u, ps⟩ := r
        have eu : u = t := by have : (u, ps) = (t, ns) := by simpa using hr
                              exact (Prod.mk.inj this).1
        subst eu
        cases hw with
        | cons hpa hw2 =>
          have hef := ents_fb hw2 (fun r hr => hok r (List.mem_cons_of_mem _ hr)) hp.2
          obtain ⟨q1, q2⟩ := parts_fb hef hpa
          have hc : e'.cost = canP (usum f' ((ps.map fun p => (ents rs fs' (0 + 1)).getD (p - (0 + 1)) ent0).map (·.cost))) := by
            have := (List.cons.inj hE).1
            rw [← this]; rfl
          have hf0 : 0 < f'.1 := by
            have h3 : u.lo * f'.2 ≤ f'.1 := hpr.lo
            have h4 := hpr.q0
            have h5 : 1 * f'.2 ≤ u.lo * f'.2 := Int.mul_le_mul_of_nonneg_right h.top (Int.le_of_lt h4)
            omega
          rw [hc]
          exact can_pos1 (usum_pos hf0 hpr.q0 q1) (usum_fb (price_fb h.ok hpr) q1).q0
section
variable {S : Store} {k : Nat}
theorem words_at_ok {t : Th} {fs : List (Int × Int)} (h : Good t) (hp : PricesOk (t.rows 0) fs) : callF FF (k + 15) 24 [t.d, .tup (fs.map fr)] S = .ok (.tup ((words (t.rows 0) (ents (t.rows 0) fs 0)).map D.int)) S := by
  have e1 := need_priced_ok (k := k) (S := S) h hp
  have e2 := words_for_ok (k := k + 1) (S := S) h.ok h.sz hp
  rw [call_eq F_24 rfl]
  simp only [Nat.add_assoc, Nat.reduceAdd] at e1 e2
  generalize hW : (words (t.rows 0) (ents (t.rows 0) fs 0)).map D.int = W at e2 ⊢
  simp [f24, e1, e2]
  rw [finR_rt, List.take_length]
  rw [← hW]
  exact belows_of fun x hx => by
    obtain ⟨f, _, rfl⟩ := List.mem_map.mp hx
    rfl
def portionM (e : Ent) : Int × Int := can (e.own.1 * e.cost.2) (e.own.2 * e.cost.1)
theorem portion_for_ok {t : Th} {fs : List (Int × Int)} (h : Good t) (hp : PricesOk (t.rows 0) fs) {e : Ent} {es : List Ent} (he : ents (t.rows 0) fs 0 = e :: es) (hf : EntFb 10 e) (hc : 0 < e.cost.1) : callF FF (k + 13) 26 [t.d, .tup (fs.map fr)] S = .ok (fr (portionM e)) S := by
  have e1 := reckoned_ok (k := k) (S := S) h.ok h.sz hp
  rw [he] at e1
  obtain ⟨s1, s2⟩ := hf.own.small (by decide)
  obtain ⟨s3, s4⟩ := hf.cost.small (by decide)
  have m1 : ∀ S, opF .mul (.int e.own.1) (.int e.cost.2) S = .ok (.int (e.own.1 * e.cost.2)) S := fun S => mul_sm (sm_of (by omega)) (sm_of (by omega))
  have m2 : ∀ S, opF .mul (.int e.own.2) (.int e.cost.1) S = .ok (.int (e.own.2 * e.cost.1)) S := fun S => mul_sm (sm_of (by omega)) (sm_of (by omega))
  have hq : 0 < e.own.2 * e.cost.1 := Int.mul_pos hf.own.q0 hc
  have hb : e.own.2 * e.cost.1 < 2 ^ 1000 := by
    have := sm_mul (i := e.own.2) (j := e.cost.1) (Nat.lt_of_lt_of_le s2 (by decide)) (Nat.lt_of_lt_of_le s3 (by decide))
    have h2 : (e.own.2 * e.cost.1).natAbs < 2 ^ 1000 := this
    omega
  have e2 := least_ok (k := k + 10) (S := S) (p := e.own.1 * e.cost.2) hq hb
  rw [call_eq F_26 rfl]
  simp only [Nat.add_assoc, Nat.reduceAdd] at e1 e2
  simp only [List.map_cons] at e1
  have i0 : ∀ (x : Int × Int) S, idxF (fr x) (.int 0) S = .ok (.int x.1) S := fun x S => idxF_t0
  have i1 : ∀ (x : Int × Int) S, idxF (fr x) (.int 1) S = .ok (.int x.2) S := fun x S => idxF_t1
  generalize hA : List.map fr (List.map (fun x => x.cost) es) = A at e1
  generalize hB : List.map fr (List.map (fun x => x.own) es) = B at e1
  generalize hC : List.map fr (List.map (fun x => x.cnt) es) = C at e1
  simp [f26, e1, i0, i1, m1, m2, e2]
  rw [finR_rt rfl, List.take_length]
  rfl
end
end Pf

set_option linter.all false
set_option Elab.async false
set_option maxRecDepth 100000
set_option maxHeartbeats 4000000
set_option autoImplicit false
/-! PfC8: is_of_here, portion; the law's reckoning -/
namespace Pf
theorem words_top {t : Th} (h : t.isMade = true) (e : Ent) (es : List Ent) : ∃ ws, words (t.rows 0) (e :: es) = wordI t e :: ws := by
  obtain ⟨ns, hr⟩ := Th.rows_head t 0
  cases hrs : t.rows 0 with
  | nil => rw [hrs] at hr; cases hr
  | cons r rs =>
    rw [hrs] at hr
    have : r = (t, ns) := by simpa using hr
    subst this
    exact ⟨words rs es, by rw [words]; simp [h]⟩
section
variable {S : Store} {k : Nat}
theorem is_of_here_ok {t : Th} {fs : List (Int × Int)} (h : Good t) (hp : PricesOk (t.rows 0) fs) {e : Ent} {es : List Ent} (he : ents (t.rows 0) fs 0 = e :: es) : callF FF (k + 16) 25 [t.d, .tup (fs.map fr)] S = .ok (.bl (wordI t e == 1)) S := by
  have e1 := words_at_ok (k := k) (S := S) h hp
  obtain ⟨ws, hw⟩ := words_top h.made e es
  rw [he, hw] at e1
  rw [call_eq F_25 rfl]
  simp [f25, e1]
  rw [finR_rt rfl, List.take_length]
theorem portion_ok {t : Th} {fs : List (Int × Int)} (h : Good t) (hp : PricesOk (t.rows 0) fs) {e : Ent} {es : List Ent} (he : ents (t.rows 0) fs 0 = e :: es) (hf : EntFb 10 e) (hc : 0 < e.cost.1) : callF FF (k + 15) 27 [t.d, .tup (fs.map fr)] S = .ok (fr (portionM e)) S := by
  have e1 := need_priced_ok (k := k) (S := S) h hp
  have e2 := portion_for_ok (k := k + 1) (S := S) h hp he hf hc
  rw [call_eq F_27 rfl]
  simp only [Nat.add_assoc, Nat.reduceAdd] at e1 e2
  simp [f27, e1, e2]
  rw [finR_rt rfl, List.take_length]
/-! the dict that the law keeps -/
def kv (g : Nat → D) (n : Nat) : Nat → List (D × D)
  | 0 => []
  | c + 1 => kv g n c ++ [(natD (n - 1 - c), g (n - 1 - c))]
theorem lookD_append (x : D) : ∀ (a b : List (D × D)), lookD x (a ++ b) = (lookD x a).or (lookD x b)
  | [], b => by simp [lookD]
  | (p, v) :: a, b => by
    rw [List.cons_append, lookD, lookD]
    split
    · rfl
    · exact lookD_append x a b
theorem lookD_kv {g : Nat → D} {n p : Nat} : ∀ (c : Nat), c ≤ n → lookD (natD p) (kv g n c) = if n - c ≤ p ∧ p < n then some (g p) else none
  | 0, _ => by rw [kv, lookD, if_neg (by omega)]
  | c + 1, h => by
    rw [kv, lookD_append, lookD_kv c (by omega)]
    by_cases hp : p = n - 1 - c
    · subst hp
      rw [if_neg (by omega), if_pos (by omega)]
      simp [lookD, natD, eqD]
    · have hne : eqD (natD (n - 1 - c)) (natD p) = false := by
        show (((n - 1 - c : Nat) : Int) == (p : Int)) = false
        simp; omega
      have hz : lookD (natD p) [(natD (n - 1 - c), g (n - 1 - c))] = none := by simp [lookD, hne]
      rw [hz]
      by_cases h2 : n - c ≤ p ∧ p < n
      · rw [if_pos h2, if_pos (by omega)]; rfl
      · rw [if_neg h2, if_neg (by omega)]; rfl
theorem any_look {x : D} : ∀ {l : List (D × D)}, lookD x l = none → (l.any fun p => eqD p.1 x) = false
  | [], _ => rfl
  | (a, v) :: l, h => by
    rw [lookD] at h
    split at h
    · cases h
    · rename_i h1
      rw [List.any_cons, any_look h]
      simp at h1
      simp [h1]
theorem putD_new {x v : D} {l : List (D × D)} (h : lookD x l = none) : putD x v l = l ++ [(x, v)] := by
  unfold putD
  rw [any_look h]
  rfl
theorem kv_len {g : Nat → D} {n : Nat} : ∀ (c : Nat), (kv g n c).length = c
  | 0 => rfl
  | c + 1 => by rw [kv, List.length_append, kv_len c]; rfl
theorem kv_put {g : Nat → D} {m c : Nat} : putD (natD m) (g m) (kv g (m + 1 + c) c) = kv g (m + 1 + c) (c + 1) := by
  rw [putD_new (by rw [lookD_kv c (by omega), if_neg (by omega)]), kv, show m + 1 + c - 1 - c = m by omega]
theorem ascend_succ : ∀ (n : Nat) (lo : Int), ascend lo (n + 1) = ascend lo n ++ [.int (lo + n)]
  | 0, lo => by simp [ascend]
  | n + 1, lo => by
    rw [ascend, ascend_succ n (lo + 1), ascend]
    simp; omega
theorem ascend_rev (n : Nat) : (ascend 0 (n + 1)).reverse = natD n :: (ascend 0 n).reverse := by
  rw [ascend_succ]; simp [natD]
/-! the entries, by place -/
theorem ents_drop : ∀ (rs : List (Th × List Nat)) (fs : List (Int × Int)) (i m : Nat), ents (rs.drop m) (fs.drop m) (i + m) = (ents rs fs i).drop m
  | rs, fs, i, 0 => by simp
  | [], fs, i, m + 1 => by simp [ents]
  | r :: rs, [], i, m + 1 => by
    have := ents_drop rs [] (i + 1) m
    rw [ents]
    simp only [List.drop_succ_cons, List.tail_nil]
    rw [← this, show i + (m + 1) = i + 1 + m by omega]
    simp
  | r :: rs, f :: fs, i, m + 1 => by
    have := ents_drop rs fs (i + 1) m
    rw [ents]
    simp only [List.drop_succ_cons, List.tail_cons]
    rw [← this, show i + (m + 1) = i + 1 + m by omega]
theorem ents_at {rs : List (Th × List Nat)} {fs : List (Int × Int)} {m : Nat} {u : Th} {ps : List Nat} {f : Int × Int} (hr : rs[m]? = some (u, ps)) (hf : fs[m]? = some f) (hps : ∀ p ∈ ps, m < p) :
    (ents rs fs 0)[m]? = some (entOf u f (ps.map fun p => (ents rs fs 0).getD p ent0)) := by
  have h1 := ents_drop rs fs 0 m
  have h2 := ents_drop rs fs 0 (m + 1)
  obtain ⟨hm, er⟩ := List.getElem?_eq_some_iff.mp hr
  obtain ⟨hm2, ef⟩ := List.getElem?_eq_some_iff.mp hf
  rw [List.drop_eq_getElem_cons hm, er, List.drop_eq_getElem_cons hm2, ef, ents] at h1
  simp only [List.headD_cons, List.tail_cons, Nat.zero_add] at h1 h2
  rw [h2] at h1
  have h3 : (ents rs fs 0)[m]? = ((ents rs fs 0).drop m)[0]? := by rw [List.getElem?_drop]; rfl
  rw [h3, ← h1, List.getElem?_cons_zero]
  congr 2
  refine List.map_congr_left fun p hp => ?_
  have := hps p hp
  rw [List.getD_eq_getElem?_getD, List.getD_eq_getElem?_getD, List.getElem?_drop, show m + 1 + (p - (m + 1)) = p by omega]
end
end Pf

set_option linter.all false
set_option Elab.async false
set_option maxRecDepth 100000
set_option maxHeartbeats 4000000
set_option autoImplicit false
/-! PfC9: the law's reckoning -/
namespace Pf
def wordD (u : Th) (e : Ent) : D := if u.isMade then .int (wordI u e) else .non
def lentD (u : Th) (e : Ent) : D := .tup [fr e.cost, fr e.own, fr e.cnt, wordD u e]
abbrev body35 : St := (.seq (.asg (.tup [(.name 5), (.name 6)]) (.idx (.var 2) (.var 4)))
    (.seq (.asg (.name 7) (.call 33 (.cons (.bin .add (.lst false (.cons (.idx (.var 1) (.var 4)) .nil)) (.comp false [11] (.name 11) (.seq (.var 6)) .none (.idx (.idx (.var 3) (.var 11)) (.con (.int 0))))) .nil)))
    (.seq (.asg (.name 8) (.ite (.cmp .eq (.idx (.var 5) (.con (.int 1))) (.con (.str [104, 101, 114, 101]))) (.lst false (.cons (.idx (.var 1) (.var 4)) .nil)) (.lst false .nil)))
    (.seq (.asg (.name 9) (.call 33 (.cons (.bin .add (.var 8) (.comp false [11] (.name 11) (.seq (.var 6)) .none (.idx (.idx (.var 3) (.var 11)) (.con (.int 2))))) .nil)))
    (.seq (.asg (.name 10) (.con .non))
    (.seq (.ifs (.cmp .eq (.idx (.var 5) (.con (.int 0))) (.con (.str [109, 97, 100, 101])))
    (.seq (.asg (.name 10) (.bi .int (.cons (.cmp .ge (.bin .mul (.bin .mul (.con (.int 100)) (.idx (.var 9) (.con (.int 0)))) (.idx (.var 7) (.con (.int 1)))) (.bin .mul (.bin .mul (.idx (.idx (.var 5) (.con (.int 4))) (.con (.int 0))) (.idx (.var 7) (.con (.int 0)))) (.idx (.var 9) (.con (.int 1))))) .nil)))
    .skip)
    .skip)
    (.seq (.asg (.sub (.var 3) (.var 4)) (.tup (.cons (.var 7) (.cons (.var 9) (.cons (.call 32 (.cons (.var 5) (.cons (.var 9) (.cons (.var 7) .nil)))) (.cons (.var 10) .nil))))))
    .skip)))))))
section
variable {S : Store} {k : Nat}
theorem comp_dic {cl : Nat → List D → M D} {ps : List Nat} {r : Nat} {j : Int} {ρ : Ev} {kvs : List (D × D)} {y : Nat → D} (hlen : ρ.length = 12) (hv : ρ[3]? = some (some (.ref r))) (hS : S[r]? = some (.dic kvs)) (hl : ∀ p ∈ ps, ∃ x, lookD (natD p) kvs = some x ∧ idxF x (.int j) S = .ok (y p) S) :
    collect (turnF cl (.name 11) [11] .none (.idx (.idx (.var 3) (.var 11)) (.con (.int j))) ρ) (ps.map natD) S = .ok (ps.map y) S := by
  refine collect_maps fun p hp => ?_
  have hb : bindP (.name 11) (natD p) (wipeE ρ [11]) = some ((wipeE ρ [11]).set 11 (some (natD p))) := by
    simp [bindP, wipeE, hlen]
  obtain ⟨x, h1, h2⟩ := hl p hp
  have g1 : ((wipeE ρ [11]).set 11 (some (natD p)))[3]? = some (some (.ref r)) := by simp [wipeE, List.getElem?_set, hv]
  have g2 : ((wipeE ρ [11]).set 11 (some (natD p)))[11]? = some (some (natD p)) := by simp [wipeE, List.getElem?_set, hlen]
  have g3 : idxF (.ref r) (natD p) S = .ok x S := by rw [idxF_dic hS rfl, h1]; rfl
  rw [turn_run hb]
  simp [g1, g2, g3, h2]
theorem lreck_loop {t : Th} {fs : List (Int × Int)} {v0 : Option D} (hk : t.ok) (hs : t.size ≤ 10) (hp : PricesOk (t.rows 0) fs) {es : List Ent} {rows : List (Th × List Nat)} (hrows : t.rows 0 = rows) (hes : ents rows fs 0 = es) {g : Nat → D}
    (hg : ∀ (m : Nat) (u : Th) (ps : List Nat) (e : Ent), rows[m]? = some (u, ps) → es[m]? = some e → g m = lentD u e) : ∀ (m c : Nat), m + c = rows.length → ∀ (w4 w5 w6 w7 w8 w9 w10 w11 : Option D),
    ∃ u4 u5 u6 u7 u8 u9 u10 u11, forF (bodyF (callF FF (k + 2)) (.name 4) body35) (ascend 0 m).reverse [v0, some (.tup (fs.map fr)), some (.lst (rows.map rowL)), some (.ref S.length), w4, w5, w6, w7, w8, w9, w10, w11]
        (S ++ [.dic (kv g (m + c) c)]) =
      .ok (.nx [v0, some (.tup (fs.map fr)), some (.lst (rows.map rowL)), some (.ref S.length), u4, u5, u6, u7, u8, u9, u10, u11]) (S ++ [.dic (kv g (m + c) (m + c))]) := by
  intro m
  induction m with
  | zero => intro c hc w4 w5 w6 w7 w8 w9 w10 w11; exact ⟨w4, w5, w6, w7, w8, w9, w10, w11, by simp [ascend]⟩
  | succ m ih =>
    intro c hc w4 w5 w6 w7 w8 w9 w10 w11
    obtain ⟨⟨u, ps⟩, hr⟩ : ∃ r, rows[m]? = some r := ⟨_, List.getElem?_eq_getElem (by omega)⟩
    have hp' := hp
    rw [hrows] at hp'
    obtain ⟨f, hf, hpr⟩ := hp'.get hr
    have hmem := List.mem_of_getElem? hr
    rw [← hrows] at hmem
    have hu := Th.rows_ok hk _ hmem
    have husz : u.size ≤ 10 := Nat.le_trans (Th.rows_size _ hmem) hs
    obtain ⟨hpa0, hgt⟩ := Th.rows_at t 0 m u ps (by rw [hrows]; exact hr)
    have hgt' : ∀ p ∈ ps, m < p := fun p hp => by have := hgt p hp; omega
    have hef := ents_fb (Th.well t) (Th.rows_ok hk) hp
    rw [hrows, hes] at hef
    rw [hrows] at hpa0
    obtain ⟨q1, q2⟩ := parts_fb hef hpa0
    have hat := ents_at hr hf hgt'
    rw [hes] at hat
    simp only [Nat.sub_zero] at q1 q2
    have hsz := Th.size_parts u
    have hfb := price_fb hu hpr
    have hpl : ∀ p ∈ ps, m + 1 ≤ p ∧ p < rows.length := fun p hp => by
      have := hpa0.mem p hp
      have := hgt' p hp
      omega
    have hesl : es.length = rows.length := by rw [← hes, ents_len]
    have hlook : ∀ p ∈ ps, ∃ v, lookD (natD p) (kv g (m + 1 + c) c) = some (lentD v (es.getD p ent0)) := fun p hp => by
      have h1 := hpl p hp
      rw [lookD_kv c (by omega), if_pos (by omega)]
      obtain ⟨⟨v, qs⟩, hv⟩ : ∃ r, rows[p]? = some r := ⟨_, List.getElem?_eq_getElem h1.2⟩
      have he : es[p]? = some (es.getD p ent0) := by rw [List.getD_eq_getElem?_getD, List.getElem?_eq_getElem (by omega)]; rfl
      exact ⟨v, by rw [hg p v qs _ hv he]⟩
    generalize hpe : (ps.map fun p => es.getD p ent0) = pe at q1 q2 hat
    have hent := entOf_fb (u := u) hfb q1 q2
    have hpl2 : ps.length ≤ 10 := by
      have h1 := hpa0.len
      have h2 := Th.len_sizes u.parts
      omega
    have y1 : ps.map (fun p => fr (es.getD p ent0).cost) = (pe.map (·.cost)).map fr := by rw [← hpe]; simp
    have y2 : ps.map (fun p => fr (es.getD p ent0).cnt) = (pe.map (·.cnt)).map fr := by rw [← hpe]; simp
    have hz1 : ∀ (S : Store) (kk : Store → R D), szR ((pe.map (·.cost)).map fr) S kk = kk S := fun S kk => if_pos (by rw [← hpe]; simp; unfold LINE; omega)
    have hz2 : ∀ (S : Store) (kk : Store → R D), szR ((pe.map (·.cnt)).map fr) S kk = kk S := fun S kk => if_pos (by rw [← hpe]; simp; unfold LINE; omega)
    have hS0 : (S ++ [Ob.dic (kv g (m + 1 + c) c)])[S.length]? = some (.dic (kv g (m + 1 + c) c)) := by simp
    have cs1 := fun (ρ : Ev) h1 h2 => comp_dic (S := S ++ [.dic (kv g (m + 1 + c) c)]) (cl := callF FF (k + 2)) (ps := ps) (j := 0) (ρ := ρ) (y := fun p => fr (es.getD p ent0).cost) h1 h2 hS0 (fun p hp => by
      obtain ⟨v, hv⟩ := hlook p hp
      exact ⟨_, hv, idxF_t0⟩)
    have cs2 := fun (ρ : Ev) h1 h2 => comp_dic (S := S ++ [.dic (kv g (m + 1 + c) c)]) (cl := callF FF (k + 2)) (ps := ps) (j := 2) (ρ := ρ) (y := fun p => fr (es.getD p ent0).cnt) h1 h2 hS0 (fun p hp => by
      obtain ⟨v, hv⟩ := hlook p hp
      exact ⟨_, hv, idxF_t2⟩)
    rw [y1] at cs1
    rw [y2] at cs2
    have iR : ∀ S, idxF (.lst (rows.map rowL)) (natD m) S = .ok (.tup [u.d, .lst (ps.map natD)]) S := fun S => idxF_l (by rw [List.getElem?_map, hr]; rfl)
    have iP : ∀ S, idxF (.tup (fs.map fr)) (natD m) S = .ok (fr f) S := fun S => idx_row hf
    have hmine : Fb 1 (mine u f) := by unfold mine; split; exact hfb; exact Fb.zero.mono (Nat.zero_le _)
    have s1 : ∀ S, callF FF (k + 2) 33 [.lst (fr f :: (pe.map (·.cost)).map fr)] S = .ok (fr (entOf u f pe).cost) S := fun S => by
      have := law_sum_ok (k := k) (S := S) (fs := f :: pe.map (·.cost)) (.cons hfb q1) (by omega)
      have e2 : usum (0, 1) (f :: pe.map (·.cost)) = usum f (pe.map (·.cost)) := by
        show usum (uadd (0, 1) f) _ = _
        rw [zero_uadd]
      rw [e2] at this
      exact this
    have s2 : ∀ S, callF FF (k + 2) 33 [.lst ((if u.here then [fr f] else []) ++ (pe.map (·.cnt)).map fr)] S = .ok (fr (entOf u f pe).own) S := fun S => by
      cases hh : u.here with
      | true =>
        have := law_sum_ok (k := k) (S := S) (fs := f :: pe.map (·.cnt)) (.cons hfb q2) (by omega)
        have e2 : usum (0, 1) (f :: pe.map (·.cnt)) = usum (mine u f) (pe.map (·.cnt)) := by
          show usum (uadd (0, 1) f) _ = _
          rw [zero_uadd]; unfold mine; rw [hh]; rfl
        rw [e2] at this
        exact this
      | false =>
        have := law_sum_ok (k := k) (S := S) (fs := pe.map (·.cnt)) q2 (by omega)
        have e2 : usum (0, 1) (pe.map (·.cnt)) = usum (mine u f) (pe.map (·.cnt)) := by
          unfold mine; rw [hh]; rfl
        rw [e2] at this
        exact this
    have p3 : ∀ S, callF FF (k + 2) 32 [u.d, fr (entOf u f pe).own, fr (entOf u f pe).cost] S = .ok (fr (entOf u f pe).cnt) S := fun S => law_counted_ok (k := k + 1) hu hent.own hent.cost (by omega) (by omega)
    have hgm : g m = lentD u (entOf u f pe) := hg m u ps _ hr hat
    have hset : ∀ v, v = lentD u (entOf u f pe) → setF (.ref S.length) (natD m) v (S ++ [.dic (kv g (m + 1 + c) c)]) = .ok () (S ++ [.dic (kv g (m + 1 + c) (c + 1))]) := fun v hv => by
      rw [setF_dic hS0 rfl (by rw [kv_len]; unfold LINE; have : rows.length ≤ 10 := by rw [← hrows, Th.rows_len]; exact hs
                               omega) (by rw [hv]; unfold lentD wordD; split <;> rfl), hv, ← hgm, kv_put]
      simp
    have a1 : ∀ S, opF .add (.lst [fr f]) (.lst ((pe.map (·.cost)).map fr)) S = .ok (.lst (fr f :: (pe.map (·.cost)).map fr)) S := fun S => addL (by rw [← hpe]; simp; unfold LINE; omega)
    have a2 : ∀ S, opF .add (.lst (if u.here then [fr f] else [])) (.lst ((pe.map (·.cnt)).map fr)) S = .ok (.lst ((if u.here then [fr f] else []) ++ (pe.map (·.cnt)).map fr)) S := fun S => addL (by rw [← hpe]; simp; unfold LINE; split <;> simp <;> omega)
    have cl1 : ∀ S, cmpF .eq (landD u.here) (.str [104, 101, 114, 101]) S = .ok (.bl u.here) S := fun S => by cases u.here <;> rfl
    have ck1 : ∀ S, cmpF .eq (.str sMade) (.str [109, 97, 100, 101]) S = .ok (.bl true) S := fun S => rfl
    have ck0 : ∀ S, cmpF .eq (.str sRaw) (.str [109, 97, 100, 101]) S = .ok (.bl false) S := fun S => rfl
    generalize hE : entOf u f pe = e at *
    obtain ⟨z1, z2⟩ := hent.own.small (by omega)
    obtain ⟨z3, z4⟩ := hent.cost.small (by omega)
    obtain ⟨u4, u5, u6, u7, u8, u9, u10, u11, er⟩ := ih (c + 1) (by omega) (some (natD m)) (some u.d) (some (.lst (ps.map natD))) (some (fr e.cost)) (some (.lst (if u.here then [fr f] else []))) (some (fr e.own)) (some (wordD u e)) w11
    refine ⟨u4, u5, u6, u7, u8, u9, u10, u11, ?_⟩
    rw [show m + (c + 1) = m + 1 + c by omega] at er
    rw [ascend_rev, forF_cons, bodyF_name (by simp)]
    have c1 := cs1 [v0, some (.tup (fs.map fr)), some (.lst (rows.map rowL)), some (.ref S.length), some (natD m), some u.d, some (.lst (ps.map natD)), w7, w8, w9, w10, w11] rfl rfl
    have c2 := cs2 [v0, some (.tup (fs.map fr)), some (.lst (rows.map rowL)), some (.ref S.length), some (natD m), some u.d, some (.lst (ps.map natD)), some (fr e.cost), some (.lst (if u.here then [fr f] else [])), w9, w10, w11] rfl rfl
    have ite1 : ∀ S : Store, (if u.here = true then (R.ok (D.lst [fr f]) S) else R.ok (D.lst []) S) = R.ok (.lst (if u.here then [fr f] else [])) S := fun S => by cases u.here <;> rfl
    clear cs1 cs2 y1 y2 hlook
    generalize hCL : (pe.map (·.cost)).map fr = CL at *
    generalize hDL : (pe.map (·.cnt)).map fr = DL at *
    have i0 : ∀ (x : Int × Int) S, idxF (fr x) (.int 0) S = .ok (.int x.1) S := fun x S => idxF_t0
    have i1 : ∀ (x : Int × Int) S, idxF (fr x) (.int 1) S = .ok (.int x.2) S := fun x S => idxF_t1
    have m1 : ∀ S, opF .mul (.int 100) (.int e.own.1) S = .ok (.int (100 * e.own.1)) S := fun S => mul_sm (sm_of (by omega)) (sm_of (by omega))
    have m2 : ∀ S, opF .mul (.int (100 * e.own.1)) (.int e.cost.2) S = .ok (.int (100 * e.own.1 * e.cost.2)) S := fun S => mul_sm (sm_of (by omega)) (sm_of (by omega))
    have hsh : 0 ≤ u.share ∧ u.share ≤ 100 := Th.share_ok hu
    have m3 : ∀ S, opF .mul (.int u.share) (.int e.cost.1) S = .ok (.int (u.share * e.cost.1)) S := fun S => mul_sm (sm_of (by omega)) (sm_of (by omega))
    have m4 : ∀ S, opF .mul (.int (u.share * e.cost.1)) (.int e.own.2) S = .ok (.int (u.share * e.cost.1 * e.own.2)) S := fun S => mul_sm (by
      have := sm_mul (i := e.cost.1) (j := u.share) (Nat.lt_of_lt_of_le z3 (by decide)) (by omega)
      rw [Int.mul_comm]; exact this) (sm_of (by omega))
    cases hm : u.isMade with
    | true =>
      obtain ⟨w, o, hx⟩ : ∃ w o, ∀ S, idxF u.d (.int 4) S = .ok (termD u.share w o) S := by
        cases u with
        | raw => cases hm
        | made hh lo hi s w o ps => exact ⟨w, o, fun S => by rw [Th.d]; simp [Th.share]⟩
      have hwd : wordD u e = .int (if decide (u.share * e.cost.1 * e.own.2 ≤ 100 * e.own.1 * e.cost.2) = true then 1 else 0) := by unfold wordD wordI enough; rw [hm]; rfl
      have hs1 := hset (.tup [fr e.cost, fr e.own, fr e.cnt, wordD u e]) rfl
      rw [hwd] at er hs1
      unfold termD at hx
      simp [body35, iR, iP, c1, hz1, a1, s1, idx_land, cl1, ite1, c2, hz2, a2, s2, idx_kind, hm, ck1, ck0, i0, i1, m1, m2, hx, m3, m4, p3] at er hs1 ⊢
      rw [hs1]
      simp
      exact er
    | false =>
      have hwd : wordD u e = .non := by unfold wordD; rw [hm]; rfl
      have hs1 := hset (.tup [fr e.cost, fr e.own, fr e.cnt, wordD u e]) rfl
      rw [hwd] at er hs1
      simp [body35, iR, iP, c1, hz1, a1, s1, idx_land, cl1, ite1, c2, hz2, a2, s2, idx_kind, hm, ck1, ck0, i0, i1, p3] at er hs1 ⊢
      rw [hs1]
      simp
      exact er
end
end Pf

set_option linter.all false
set_option Elab.async false
set_option maxRecDepth 100000
set_option autoImplicit false
/-! PfRep2: what repr writes are signs -/
namespace Pf
open PySem PySem.Builtin.Str
def Sg (s : Str) : Prop := ∀ c ∈ s.cps.toList, c < 0x110000
theorem Sg.app {a b : Str} (ha : Sg a) (hb : Sg b) : Sg (a ++ b) := fun c hc => by
  have e : (a ++ b).cps.toList = a.cps.toList ++ b.cps.toList := by
    show (a.cps ++ b.cps).toList = _
    simp
  rw [e, List.mem_append] at hc
  rcases hc with h | h
  · exact ha c h
  · exact hb c h
theorem char_lt (c : Char) : c.toNat < 0x110000 := by
  have := c.valid
  have e : c.toNat = c.val.toNat := rfl
  rcases this with h | h <;> (rw [e]; omega)
theorem Sg.ofS (s : String) : Sg (s : Str) := fun c hc => by
  have e : ((s : Str)).cps.toList = s.toList.map Char.toNat := by
    show (Str.ofString s).cps.toList = _
    rw [Str.ofString_eq_toList]
  rw [e] at hc
  obtain ⟨x, _, rfl⟩ := List.mem_map.mp hc
  exact char_lt x
theorem Sg.join {sep : Str} (hs : Sg sep) : ∀ {ts : List Str}, (∀ t ∈ ts, Sg t) → Sg (Str.join sep ts)
  | [], _ => fun c hc => by cases hc
  | [x], h => h x List.mem_cons_self
  | x :: y :: r, h => Sg.app (Sg.app (h x List.mem_cons_self) hs) (Sg.join hs fun t ht => h t (List.mem_cons_of_mem _ ht))
theorem Sg.textFrom : ∀ {ts : List Str} {k : Nat} {acc : Str}, Sg acc → (∀ t ∈ ts, Sg t) → Sg (textFrom k acc ts)
  | [], _, _, ha, _ => ha
  | t :: r, k, acc, ha, h => Sg.textFrom (ts := r) (k := k + 1) (Sg.app (Sg.app ha (Sg.ofS _)) (h t List.mem_cons_self)) fun t ht => h t (List.mem_cons_of_mem _ ht)
theorem Sg.chr {q c : Nat} (hq : q < 0x110000) (hc : c < 0x110000) : ∀ x ∈ reprChar q c, x < 0x110000 := by
  have hx : ∀ (w : Nat), ∀ x ∈ List.replicate (w - ((Nat.toDigits 16 c).map Char.toNat).length) 48 ++ (Nat.toDigits 16 c).map Char.toNat, x < 0x110000 := fun w x hx => by
    rcases List.mem_append.mp hx with h | h
    · rw [(List.mem_replicate.mp h).2]; decide
    · obtain ⟨y, _, rfl⟩ := List.mem_map.mp h
      exact char_lt y
  intro x h
  unfold reprChar at h
  simp only at h
  split at h
  · simp at h; omega
  split at h
  · simp at h; omega
  split at h
  · simp at h; omega
  split at h
  · simp at h; omega
  split at h
  · simp at h; omega
  split at h
  · rcases List.mem_append.mp h with h | h
    · simp at h; omega
    · exact hx 2 x h
  split at h
  · rcases List.mem_append.mp h with h | h
    · simp at h; omega
    · exact hx 4 x h
  · rcases List.mem_append.mp h with h | h
    · simp at h; omega
    · exact hx 8 x h
theorem Sg.fold {q : Nat} (hq : q < 0x110000) : ∀ (l : List Nat) (acc : Array Nat), (∀ c ∈ l, c < 0x110000) → (∀ c ∈ acc.toList, c < 0x110000) → ∀ c ∈ (l.foldl (fun out c => out ++ (reprChar q c).toArray) acc).toList, c < 0x110000
  | [], _, _, ha => ha
  | x :: l, acc, h, ha => by
    rw [List.foldl_cons]
    refine Sg.fold hq l _ (fun c hc => h c (List.mem_cons_of_mem _ hc)) fun c hc => ?_
    rw [Array.toList_append, List.mem_append] at hc
    rcases hc with hc | hc
    · exact ha c hc
    · exact Sg.chr hq (h x List.mem_cons_self) c (by simpa using hc)
theorem Sg.repr {x : Str} (h : Sg x) : Sg (reprText x) := by
  have hq : reprQuote x < 0x110000 := by
    unfold reprQuote; split <;> decide
  intro c hc
  unfold reprText at hc
  rw [Array.toList_push, List.mem_append] at hc
  rcases hc with hc | hc
  · rw [← Array.foldl_toList] at hc
    exact Sg.fold hq x.cps.toList _ h (fun c hc => by simp at hc; subst hc; exact hq) c hc
  · simp at hc; omega
mutual
theorem Sg.shown : ∀ {d : D}, sh d = true → Sg (toPy d).shown
  | .non, _ => by show Sg (PyData.shown .none); rw [PyData.shown]; exact Sg.ofS _
  | .bl b, _ => by show Sg (PyData.shown (.bool b)); rw [PyData.shown]; cases b <;> exact Sg.ofS _
  | .int i, _ => by show Sg (PyData.shown (.int i)); rw [PyData.shown]; exact Sg.ofS _
  | .str s, h => by
    show Sg (PyData.shown (.str ⟨s.toArray⟩)); rw [PyData.shown]
    refine Sg.repr fun c hc => ?_
    have h' : s.all (· < 0x110000) = true := h
    exact of_decide_eq_true (List.all_eq_true.mp h' c (by simpa using hc))
  | .tup l, h => by
    show Sg (PyData.shown (.tuple (toPys l))); rw [PyData.shown]
    have := Sg.showns (show shs l = true from h)
    unfold tupleText
    exact Sg.app (Sg.app (Sg.ofS _) (Sg.join (Sg.ofS _) this)) (Sg.ofS _)
  | .lst l, h => by
    show Sg (PyData.shown (.list (toPys l))); rw [PyData.shown]
    have := Sg.showns (show shs l = true from h)
    unfold listText
    exact Sg.app (Sg.textFrom (Sg.ofS _) this) (Sg.ofS _)
theorem Sg.showns : ∀ {l : List D}, shs l = true → ∀ t ∈ PyData.shownAll (toPys l), Sg t
  | [], _, t, ht => by simp [toPys, PyData.shownAll] at ht
  | x :: xs, h, t, ht => by
    have h' := Bool.and_eq_true_iff.mp (show (sh x && shs xs) = true from h)
    simp only [toPys, PyData.shownAll, List.mem_cons] at ht
    rcases ht with rfl | ht
    · exact Sg.shown h'.1
    · exact Sg.showns h'.2 t ht
end
theorem okD_shown {d : D} (h : sh d = true) : okD (.str (shownD d)) = true := by
  have : cl (.str (shownD d)) = true := by
    show (shownD d).all (· < 0x110000) = true
    exact List.all_eq_true.mpr fun c hc => decide_eq_true (Sg.shown h c hc)
  unfold okD
  rw [this]; rfl
/-- two reprs of the same -/
theorem ne_same {d : D} {S : Store} (h : sh d = true) : cmpF .ne (.str (shownD d)) (.str (shownD d)) S = .ok (.bl false) S := by
  show (if okD (.str (shownD d)) && okD (.str (shownD d)) then R.ok (D.bl (!eqD (.str (shownD d)) (.str (shownD d)))) S else .no) = _
  rw [okD_shown h]
  simp [eqD]
end Pf

set_option linter.all false
set_option Elab.async false
set_option maxRecDepth 100000
set_option maxHeartbeats 4000000
set_option autoImplicit false
/-! PfD1: the law's reckoning, its words, its portion -/
namespace Pf
def lents : List (Th × List Nat) → List Ent → List D
  | r :: rs, e :: es => lentD r.1 e :: lents rs es
  | _, _ => []
theorem lents_len : ∀ {rs : List (Th × List Nat)} {es : List Ent}, es.length = rs.length → (lents rs es).length = rs.length
  | [], [], _ => rfl
  | r :: rs, e :: es, h => by rw [lents, List.length_cons, List.length_cons, lents_len (by simpa using h)]
  | [], _ :: _, h => by cases h
  | _ :: _, [], h => by cases h
theorem lents_at : ∀ {rs : List (Th × List Nat)} {es : List Ent} {m : Nat} {r : Th × List Nat} {e : Ent}, rs[m]? = some r → es[m]? = some e → (lents rs es)[m]? = some (lentD r.1 e)
  | [], _, m, _, _, h, _ => by simp at h
  | _ :: _, [], m, _, _, _, h => by simp at h
  | r :: rs, e :: es, 0, _, _, h1, h2 => by simp at h1 h2; subst h1 h2; rfl
  | r :: rs, e :: es, m + 1, _, _, h1, h2 => by
    rw [lents, List.getElem?_cons_succ]
    exact lents_at (by simpa using h1) (by simpa using h2)
theorem ascend_map : ∀ (n : Nat), ascend 0 n = (List.range n).map natD
  | 0 => rfl
  | n + 1 => by rw [ascend_succ, ascend_map n, List.range_succ, List.map_append]; simp [natD]
theorem below_lents {b : Nat} : ∀ (rs : List (Th × List Nat)) (es : List Ent), belows b (lents rs es) = true
  | [], es => by cases es <;> rfl
  | _ :: _, [] => rfl
  | r :: rs, e :: es => by
    show (below b (lentD r.1 e) && belows b (lents rs es)) = true
    rw [below_lents rs es, Bool.and_true]
    unfold lentD wordD
    split <;> rfl
section
variable {S : Store} {k : Nat}
theorem law_reckoned_ok {t : Th} {fs : List (Int × Int)} (hk : t.ok) (hs : t.size ≤ 10) (hp : PricesOk (t.rows 0) fs) : callF FF (k + 11) 35 [t.d, .tup (fs.map fr)] S = .ok (.lst (lents (t.rows 0) (ents (t.rows 0) fs 0))) S := by
  have e1 : callF FF (k + 10) 34 [t.d, .int 0] S = .ok (.lst ((t.rows 0).map rowL)) S := law_rows_ok 10 t k 0 S hs (by decide) hk
  have hlen : (t.rows 0).length ≤ 10 := by rw [Th.rows_len]; exact hs
  generalize hes : ents (t.rows 0) fs 0 = es
  have hesl : es.length = (t.rows 0).length := by rw [← hes, ents_len]
  have hll := lents_len hesl
  have e2 := lreck_loop (k := k + 8) (S := S) (v0 := some t.d) hk hs hp rfl hes (g := fun p => (lents (t.rows 0) es).getD p .non) (fun m u ps e h1 h2 => by
    show (lents (t.rows 0) es).getD m .non = _
    rw [List.getD_eq_getElem?_getD, lents_at h1 h2]; rfl) (t.rows 0).length 0 rfl none none none none none none none none
  obtain ⟨u4, u5, u6, u7, u8, u9, u10, u11, e2⟩ := e2
  generalize hrw : t.rows 0 = rows at *
  generalize hn : rows.length = n at *
  simp only [Nat.add_zero] at e2
  have s1 : small (n : Int) = true := small_of (by omega) (by omega)
  have c3 : collect (turnF (callF FF (k + 10)) (.name 4) [4] .none (.idx (.var 3) (.var 4)) [some t.d, some (.tup (fs.map fr)), some (.lst (rows.map rowL)), some (.ref S.length), u4, u5, u6, u7, u8, u9, u10, u11]) ((List.range n).map natD) (S ++ [.dic (kv (fun p => (lents rows es).getD p .non) n n)]) = .ok (lents rows es) (S ++ [.dic (kv (fun p => (lents rows es).getD p .non) n n)]) := by
    have := collect_maps (f := turnF (callF FF (k + 10)) (.name 4) [4] .none (.idx (.var 3) (.var 4)) [some t.d, some (.tup (fs.map fr)), some (.lst (rows.map rowL)), some (.ref S.length), u4, u5, u6, u7, u8, u9, u10, u11]) (S := S ++ [.dic (kv (fun p => (lents rows es).getD p .non) n n)]) (c := natD) (y := fun p => (lents rows es).getD p .non) (rows := List.range n) (fun p hp => by
      have hpn : p < n := List.mem_range.mp hp
      have hb : bindP (.name 4) (natD p) (wipeE [some t.d, some (.tup (fs.map fr)), some (.lst (rows.map rowL)), some (.ref S.length), u4, u5, u6, u7, u8, u9, u10, u11] [4]) = some [some t.d, some (.tup (fs.map fr)), some (.lst (rows.map rowL)), some (.ref S.length), some (natD p), u5, u6, u7, u8, u9, u10, u11] := by
        simp [bindP, wipeE]
      rw [turn_run hb]
      have i1 : idxF (.ref S.length) (natD p) (S ++ [.dic (kv (fun p => (lents rows es).getD p .non) n n)]) = .ok ((lents rows es).getD p .non) (S ++ [.dic (kv (fun p => (lents rows es).getD p .non) n n)]) := by
        rw [idxF_dic (kvs := kv (fun p => (lents rows es).getD p .non) n n) (by simp) rfl, lookD_kv _ (Nat.le_refl _), if_pos (by omega)]
        rfl
      simp [-List.getD_eq_getElem?_getD, i1])
    rw [this]
    congr 1
    refine List.ext_getElem? fun i => ?_
    rw [List.getElem?_map]
    by_cases hi : i < n
    · rw [List.getElem?_range hi]
      simp only [Option.map_some]
      rw [List.getD_eq_getElem?_getD, List.getElem?_eq_getElem (by omega)]
      rfl
    · rw [List.getElem?_eq_none (by simp; omega), List.getElem?_eq_none (by omega)]
      rfl
  have hz : ∀ (S : Store) (kk : Store → R D), szR (lents rows es) S kk = kk S := fun S kk => if_pos (by rw [hll]; unfold LINE; omega)
  have hfin : below S.length (.lst (lents rows es)) = true := below_lents _ _
  rw [call_eq F_35 rfl]
  have e3 : dicF [] [] S = .ok (.ref S.length) (S ++ [.dic []]) := rfl
  simp only [Nat.add_assoc, Nat.reduceAdd] at e1 e2
  have hRl : (rows.map rowL).length = n := by rw [List.length_map, hn]
  generalize hR : rows.map rowL = RL at *
  generalize hG : lents rows es = G at *
  have kv0 : kv (fun p => G.getD p .non) n 0 = [] := rfl
  rw [kv0] at e2
  simp [-List.getD_eq_getElem?_getD, f35, e1, e3, hRl, s1]
  rw [e2]
  rw [← ascend_map] at c3
  simp [-List.getD_eq_getElem?_getD, hRl, s1]
  rw [c3]
  simp [hz]
  rw [finR_rt hfin]
  simp
theorem lw_collect {f : D → M (Option D)} : ∀ (rs : List (Th × List Nat)) (es : List Ent), (∀ (u : Th) (e : Ent), f (lentD u e) S = .ok (if u.isMade then some (.int (wordI u e)) else none) S) → collect f (lents rs es) S = .ok ((words rs es).map D.int) S
  | [], es, _ => by cases es <;> rfl
  | _ :: _, [], _ => rfl
  | r :: rs, e :: es, h => by
    rw [lents, collect_run, h, rb_ok, lw_collect rs es h, rb_ok, words]
    cases r.1.isMade <;> rfl
theorem law_words_ok {t : Th} {fs : List (Int × Int)} (hk : t.ok) (hs : t.size ≤ 10) (hp : PricesOk (t.rows 0) fs) : callF FF (k + 12) 37 [t.d, .tup (fs.map fr)] S = .ok (.tup ((words (t.rows 0) (ents (t.rows 0) fs 0)).map D.int)) S := by
  have e1 := law_reckoned_ok (k := k) (S := S) hk hs hp
  have hlen : (t.rows 0).length ≤ 10 := by rw [Th.rows_len]; exact hs
  have hwl := words_len (t.rows 0) (ents (t.rows 0) fs 0)
  generalize ents (t.rows 0) fs 0 = es at *
  have c1 := lw_collect (S := S) (f := turnF (callF FF (k + 11)) (.name 2) [2] (.some (.cmp .isnot (.idx (.var 2) (.con (.int 3))) (.con .non))) (.idx (.var 2) (.con (.int 3))) [some t.d, some (.tup (fs.map fr)), none]) (t.rows 0) es (fun u e => by
    have hb : bindP (.name 2) (lentD u e) (wipeE [some t.d, some (.tup (fs.map fr)), none] [2]) = some [some t.d, some (.tup (fs.map fr)), some (lentD u e)] := by simp [bindP, wipeE]
    rw [turn_run hb]
    unfold lentD wordD
    cases u.isMade with
    | true => simp [cmpF]
    | false => simp [cmpF])
  have hz : ∀ (S : Store) (kk : Store → R D), szR ((words (t.rows 0) es).map D.int) S kk = kk S := fun S kk => if_pos (by rw [List.length_map]; unfold LINE; omega)
  rw [call_eq F_37 rfl]
  simp [f37, e1, c1, hz, tuple_lst]
  rw [finR_rt, List.take_length]
  exact belows_of fun x hx => by
    obtain ⟨f, _, rfl⟩ := List.mem_map.mp hx
    rfl
theorem law_portion_ok {t : Th} {fs : List (Int × Int)} (h : Good t) (hp : PricesOk (t.rows 0) fs) {e : Ent} {es : List Ent} (he : ents (t.rows 0) fs 0 = e :: es) (hf : EntFb 10 e) (hc : 0 < e.cost.1) : callF FF (k + 12) 36 [t.d, .tup (fs.map fr)] S = .ok (fr (portionM e)) S := by
  have e1 := law_reckoned_ok (k := k) (S := S) h.ok h.sz hp
  obtain ⟨ns, hr⟩ := Th.rows_head t 0
  have e0 : ∃ rs, lents (t.rows 0) (e :: es) = lentD t e :: rs := by
    cases hrs : t.rows 0 with
    | nil => rw [hrs] at hr; cases hr
    | cons r rs =>
      rw [hrs] at hr
      have : r = (t, ns) := by simpa using hr
      subst this
      exact ⟨lents rs es, rfl⟩
  obtain ⟨rs, e0⟩ := e0
  rw [he, e0] at e1
  obtain ⟨s1, s2⟩ := hf.own.small (by decide)
  obtain ⟨s3, s4⟩ := hf.cost.small (by decide)
  have m1 : ∀ S, opF .mul (.int e.own.1) (.int e.cost.2) S = .ok (.int (e.own.1 * e.cost.2)) S := fun S => mul_sm (sm_of (by omega)) (sm_of (by omega))
  have m2 : ∀ S, opF .mul (.int e.own.2) (.int e.cost.1) S = .ok (.int (e.own.2 * e.cost.1)) S := fun S => mul_sm (sm_of (by omega)) (sm_of (by omega))
  have hq : 0 < e.own.2 * e.cost.1 := Int.mul_pos hf.own.q0 hc
  have hb : e.own.2 * e.cost.1 < 2 ^ 1000 := by
    have := sm_mul (i := e.own.2) (j := e.cost.1) (Nat.lt_of_lt_of_le s2 (by decide)) (Nat.lt_of_lt_of_le s3 (by decide))
    have h2 : (e.own.2 * e.cost.1).natAbs < 2 ^ 1000 := this
    omega
  have hb2 : Sm (e.own.1 * e.cost.2) := sm_mul (Nat.lt_of_lt_of_le s1 (by decide)) (Nat.lt_of_lt_of_le s4 (by decide))
  have e2 := law_least_ok (k := k + 10) (S := S) (p := e.own.1 * e.cost.2) hb2 hq hb
  rw [call_eq F_36 rfl]
  have sl : ∀ S, sliF (lentD t e) none (some 2) S = .ok (.tup [fr e.cost, fr e.own]) S := fun S => rfl
  have i0 : ∀ (x : Int × Int) S, idxF (fr x) (.int 0) S = .ok (.int x.1) S := fun x S => idxF_t0
  have i1 : ∀ (x : Int × Int) S, idxF (fr x) (.int 1) S = .ok (.int x.2) S := fun x S => idxF_t1
  simp only [Nat.add_assoc, Nat.reduceAdd] at e1 e2
  simp [f36, e1, sl, i0, i1, m1, m2, e2]
  rw [finR_rt rfl, List.take_length]
  rfl
end
end Pf

set_option linter.all false
set_option Elab.async false
set_option maxRecDepth 100000
set_option maxHeartbeats 4000000
set_option autoImplicit false
/-! PfD2: plain data that is shown; _law_right -/
namespace Pf
mutual
theorem Th.w_d : ∀ (t : Th), wD t.d + 1 ≤ 700 * t.size
  | .raw h lo hi => by
    have : wD (Th.raw h lo hi).d ≤ 500 := by rw [Th.d]; unfold landD; cases h <;> (show 3 + 1 + (4 + 1 + (201 + 1 + (201 + 1 + 0))) ≤ 500) <;> decide
    show _ ≤ 700 * 1
    omega
  | .made h lo hi s w o ps => by
    have := Th.w_ds ps
    have e : wD (Th.made h lo hi s w o ps).d ≤ 690 + wDs (Th.ds ps) := by
      rw [Th.d]
      show 4 + 1 + (wD (landD h) + 1 + (201 + 1 + (201 + 1 + ((wD (termD s w o)) + 1 + (wDs (Th.ds ps) + 1 + 0))))) ≤ _
      have h1 : wD (landD h) ≤ 4 := by unfold landD; cases h <;> decide
      have h2 : wD (termD s w o) ≤ 220 := by unfold termD upD dnD; cases w <;> cases o <;> (show 201 + 1 + (_ + 1 + (_ + 1 + 0)) ≤ 220) <;> decide
      omega
    show _ ≤ 700 * (Th.sizes ps + 1)
    omega
theorem Th.w_ds : ∀ (ts : List Th), wDs (Th.ds ts) ≤ 700 * Th.sizes ts
  | [] => Nat.zero_le _
  | t :: ts => by
    have h1 := Th.w_d t
    have h2 := Th.w_ds ts
    have h3 : 1 ≤ t.size := by cases t <;> simp [Th.size]
    show wD t.d + 1 + wDs (Th.ds ts) ≤ 700 * (t.size + Th.sizes ts)
    omega
end
theorem frs_pl : ∀ {fs : List (Int × Int)}, (∀ f ∈ fs, f.1.natAbs < 2 ^ 200 ∧ f.2.natAbs < 2 ^ 200) → shs (fs.map fr) = true ∧ wDs (fs.map fr) = 405 * fs.length ∧ deps (fs.map fr) ≤ 1
  | [], _ => ⟨rfl, rfl, Nat.zero_le _⟩
  | f :: fs, h => by
    obtain ⟨h1, h2, h3⟩ := frs_pl (fs := fs) fun g hg => h g (List.mem_cons_of_mem _ hg)
    obtain ⟨g1, g2⟩ := h f List.mem_cons_self
    refine ⟨?_, ?_, ?_⟩
    · show ((decide (f.1.natAbs < 2 ^ 200) && (decide (f.2.natAbs < 2 ^ 200) && true)) && shs (fs.map fr)) = true
      rw [h1, decide_eq_true g1, decide_eq_true g2] <;> rfl
    · show 201 + 1 + (201 + 1 + 0) + 1 + wDs (fs.map fr) = 405 * (fs.length + 1)
      omega
    · show max (max 0 (max 0 0) + 1) (deps (fs.map fr)) ≤ 1
      omega
theorem ws_pl : ∀ {ws : List Int}, (∀ w ∈ ws, w.natAbs < 2 ^ 200) → shs (ws.map D.int) = true ∧ wDs (ws.map D.int) = 202 * ws.length ∧ deps (ws.map D.int) = 0
  | [], _ => ⟨rfl, rfl, rfl⟩
  | f :: fs, h => by
    obtain ⟨h1, h2, h3⟩ := ws_pl (ws := fs) fun g hg => h g (List.mem_cons_of_mem _ hg)
    have g1 := h f List.mem_cons_self
    refine ⟨?_, ?_, ?_⟩
    · show (decide (f.natAbs < 2 ^ 200) && shs (fs.map D.int)) = true
      rw [h1, decide_eq_true g1] <;> rfl
    · show 201 + 1 + wDs (fs.map D.int) = 202 * (fs.length + 1)
      omega
    · show max 0 (deps (fs.map D.int)) = 0
      omega
theorem words_01 : ∀ (rs : List (Th × List Nat)) (es : List Ent), ∀ w ∈ words rs es, w.natAbs < 2 ^ 200
  | [], es, w, h => by cases es <;> cases h
  | _ :: _, [], w, h => by cases h
  | r :: rs, e :: es, w, h => by
    rw [words] at h
    split at h
    · rcases List.mem_cons.mp h with rfl | h
      · unfold wordI; split <;> decide
      · exact words_01 rs es w h
    · exact words_01 rs es w h
theorem ents_mem {t : Th} {fs : List (Int × Int)} (hk : t.ok) (hs : t.size ≤ 10) (hp : PricesOk (t.rows 0) fs) : ∀ e ∈ ents (t.rows 0) fs 0, EntFb 10 e := fun e he => by
  obtain ⟨i, hi⟩ := List.getElem?_of_mem he
  have hl := (List.getElem?_eq_some_iff.mp hi).1
  rw [ents_len] at hl
  obtain ⟨⟨u, ps⟩, hr⟩ : ∃ r, (t.rows 0)[i]? = some r := ⟨_, List.getElem?_eq_getElem hl⟩
  obtain ⟨e', h1, h2⟩ := ents_fb (Th.well t) (Th.rows_ok hk) hp i u ps hr
  have : e' = e := by rw [hi] at h1; exact (Option.some.inj h1).symm
  subst this
  have hsz : u.size ≤ 10 := Nat.le_trans (Th.rows_size _ (List.mem_of_getElem? hr)) hs
  exact ⟨h2.cost.mono hsz, h2.own.mono hsz, h2.cnt.mono hsz⟩
theorem portionM_sm {e : Ent} (h : EntFb 10 e) (hc : 0 < e.cost.1) : (portionM e).1.natAbs < 2 ^ 200 ∧ (portionM e).2.natAbs < 2 ^ 200 := by
  have a1 := h.own.p0; have a2 := h.own.p1; have a3 := h.own.q0; have a4 := h.own.q1
  have b1 := h.cost.p0; have b2 := h.cost.p1; have b3 := h.cost.q0; have b4 := h.cost.q1
  have k1 : e.own.1 ≤ 2 ^ 92 := by have : (100 : Int) ^ 10 = 100000000000000000000 := by decide
                                   omega
  have k2 : e.cost.1 ≤ 2 ^ 92 := by have : (100 : Int) ^ 10 = 100000000000000000000 := by decide
                                    omega
  have k3 : e.own.2 ≤ 2 ^ 70 := by have : (100 : Int) ^ 10 = 100000000000000000000 := by decide
                                   omega
  have k4 : e.cost.2 ≤ 2 ^ 70 := by have : (100 : Int) ^ 10 = 100000000000000000000 := by decide
                                    omega
  have m1 : e.own.1 * e.cost.2 ≤ 2 ^ 92 * 2 ^ 70 := Int.mul_le_mul k1 k4 (by omega) (by omega)
  have m2 : e.own.2 * e.cost.1 ≤ 2 ^ 70 * 2 ^ 92 := Int.mul_le_mul k3 k2 (by omega) (by omega)
  have n1 : 0 ≤ e.own.1 * e.cost.2 := Int.mul_nonneg a1 (by omega)
  have n2 : 0 < e.own.2 * e.cost.1 := Int.mul_pos a3 hc
  have c1 := can_abs (p := e.own.1 * e.cost.2) (q := e.own.2 * e.cost.1)
  have c2 := can_le (p := e.own.1 * e.cost.2) n2
  have c3 := can_pos (p := e.own.1 * e.cost.2) n2
  unfold portionM
  constructor <;> omega
theorem lents_collect {S : Store} {f : D → M (Option D)} {g : Ent → Int × Int} : ∀ (rs : List (Th × List Nat)) (es : List Ent), es.length = rs.length → (∀ (u : Th) (e : Ent), f (lentD u e) S = .ok (some (fr (g e))) S) → collect f (lents rs es) S = .ok ((es.map g).map fr) S
  | [], [], _, _ => rfl
  | r :: rs, e :: es, h, hf => by
    rw [lents, collect_run, hf, rb_ok, lents_collect rs es (by simpa using h) hf, rb_ok]
    rfl
  | [], _ :: _, h, _ => by cases h
  | _ :: _, [], h, _ => by cases h
abbrev body38 : St := (.seq (.asg (.name 6) (.lst false (.cons (.call 30 (.cons (.var 0) (.cons (.var 1) .nil))) (.cons (.call 29 (.cons (.var 0) (.cons (.var 1) .nil))) (.cons (.call 28 (.cons (.var 0) (.cons (.var 1) .nil))) .nil)))))
    (.seq (.ifs (.or (.cmp .ne (.bi .repr (.cons (.var 6) .nil)) (.bi .repr (.cons (.var 3) .nil))) (.cmp .ne (.bi .repr (.cons (.call 24 (.cons (.var 0) (.cons (.var 1) .nil))) .nil)) (.bi .repr (.cons (.var 4) .nil))))
    (.seq (.ret (.con (.bl false)))
    .skip)
    .skip)
    (.seq (.ifs (.cmp .ne (.bi .repr (.cons (.lst false (.cons (.call 25 (.cons (.var 0) (.cons (.var 1) .nil))) (.cons (.call 27 (.cons (.var 0) (.cons (.var 1) .nil))) .nil))) .nil)) (.bi .repr (.cons (.lst false (.cons (.cmp .eq (.idx (.var 4) (.con (.int 0))) (.con (.int 1))) (.cons (.call 36 (.cons (.var 0) (.cons (.var 1) .nil))) .nil))) .nil)))
    (.seq (.ret (.con (.bl false)))
    .skip)
    .skip)
    .skip)))
section
variable {S : Store} {k : Nat}
theorem law_right_ok {t : Th} {fs : List (Int × Int)} (h : Good t) (hp : PricesOk (t.rows 0) fs) : callF FF (k + 17) 38 [t.d, .tup (fs.map fr)] S = .ok (.bl true) S := by
  obtain ⟨e, es', he, hfb, hc⟩ := ents_top h hp
  have hlen : (t.rows 0).length ≤ 10 := by rw [Th.rows_len]; exact h.sz
  have hmem := ents_mem h.ok h.sz hp
  have e1 := law_reckoned_ok (k := k + 5) (S := S) h.ok h.sz hp
  have e2 := law_words_ok (k := k + 4) (S := S) h.ok h.sz hp
  have e3 := costs_ok (k := k + 1) (S := S) h hp
  have e4 := owns_ok (k := k + 1) (S := S) h hp
  have e5 := counted_ok (k := k + 1) (S := S) h hp
  have e6 := words_at_ok (k := k + 1) (S := S) h hp
  have e7 := is_of_here_ok (k := k) (S := S) h hp he
  have e8 := portion_ok (k := k + 1) (S := S) h hp he hfb hc
  have e9 := law_portion_ok (k := k + 4) (S := S) h hp he hfb hc
  have hesl := ents_len (t.rows 0) fs 0
  have hwl := words_len (t.rows 0) (ents (t.rows 0) fs 0)
  have hwp := ws_pl (words_01 (t.rows 0) (ents (t.rows 0) fs 0))
  obtain ⟨ws, hw0⟩ := words_top h.made e es'
  rw [← he] at hw0
  generalize hE : ents (t.rows 0) fs 0 = es at *
  have hsm : ∀ (g : Ent → Int × Int), (∀ e, EntFb 10 e → Fb 10 (g e)) → ∀ f ∈ es.map g, f.1.natAbs < 2 ^ 200 ∧ f.2.natAbs < 2 ^ 200 := fun g hg f hf => by
    obtain ⟨e, he, rfl⟩ := List.mem_map.mp hf
    exact (hg e (hmem e he)).small (by decide)
  obtain ⟨a1, a2, a3⟩ := frs_pl (hsm (·.cost) fun e h => h.cost)
  obtain ⟨b1, b2, b3⟩ := frs_pl (hsm (·.own) fun e h => h.own)
  obtain ⟨c1, c2, c3⟩ := frs_pl (hsm (·.cnt) fun e h => h.cnt)
  simp only [List.length_map] at a2 b2 c2
  have pl1 : Pl (.lst [.tup ((es.map (·.cost)).map fr), .tup ((es.map (·.own)).map fr), .tup ((es.map (·.cnt)).map fr)]) := by
    refine ⟨?_, ?_, ?_⟩
    · show (shs _ && (shs _ && (shs _ && true))) = true
      rw [a1, b1, c1] <;> rfl
    · show wDs _ + 1 + (wDs _ + 1 + (wDs _ + 1 + 0)) ≤ 200000
      omega
    · show max (deps _ + 1) (max (deps _ + 1) (max (deps _ + 1) 0)) + 1 ≤ 60
      omega
  have pl2 : Pl (.tup ((words (t.rows 0) es).map D.int)) := by
    refine ⟨hwp.1, ?_, ?_⟩
    · show wDs _ ≤ _
      rw [hwp.2.1]; omega
    · show deps _ + 1 ≤ _
      rw [hwp.2.2]; omega
  obtain ⟨p1, p2⟩ := portionM_sm hfb hc
  have pl3 : Pl (.lst [.bl (wordI t e == 1), fr (portionM e)]) := by
    refine ⟨?_, ?_, ?_⟩
    · show (true && ((decide (_ < 2 ^ 200) && (decide (_ < 2 ^ 200) && true)) && true)) = true
      rw [decide_eq_true p1, decide_eq_true p2] <;> rfl
    · show 0 + 1 + (201 + 1 + (201 + 1 + 0) + 1 + 0) ≤ 200000
      decide
    · show max 0 (max (max 0 (max 0 0) + 1) 0) + 1 ≤ 60
      decide
  have cc : ∀ (j : Int) (g : Ent → Int × Int) (ρ : Ev), ρ.length = 9 → ρ[7]? = some (some (.int j)) → (∀ u e S, idxF (lentD u e) (.int j) S = .ok (fr (g e)) S) → collect (turnF (callF FF (k + 16)) (.name 8) [8] .none (.idx (.var 8) (.var 7)) ρ) (lents (t.rows 0) es) S = .ok ((es.map g).map fr) S := fun j g ρ hl h7 hg => by
    refine lents_collect _ _ hesl fun u e => ?_
    have hb : bindP (.name 8) (lentD u e) (wipeE ρ [8]) = some ((wipeE ρ [8]).set 8 (some (lentD u e))) := by simp [bindP, wipeE, hl]
    have g1 : ((wipeE ρ [8]).set 8 (some (lentD u e)))[7]? = some (some (.int j)) := by simp [wipeE, List.getElem?_set, h7]
    have g2 : ((wipeE ρ [8]).set 8 (some (lentD u e)))[8]? = some (some (lentD u e)) := by simp [wipeE, List.getElem?_set, hl]
    rw [turn_run hb]
    simp [g1, g2, hg]
  have hz : ∀ (g : Ent → Int × Int) (S : Store) (kk : Store → R D), szR ((es.map g).map fr) S kk = kk S := fun g S kk => if_pos (by simp; unfold LINE; omega)
  have cd : collect (turnF (callF FF (k + 16)) (.name 7) [7] .none (.bi .tuple (.cons (.comp false [8] (.name 8) (.seq (.var 2)) .none (.idx (.var 8) (.var 7))) .nil)) [some t.d, some (.tup (fs.map fr)), some (.lst (lents (t.rows 0) es)), none, none, none, none, none, none]) [.int 0, .int 1, .int 2] S =
      .ok [.tup ((es.map (·.cost)).map fr), .tup ((es.map (·.own)).map fr), .tup ((es.map (·.cnt)).map fr)] S := by
    have one : ∀ (j : Int) (g : Ent → Int × Int), (∀ u e S, idxF (lentD u e) (.int j) S = .ok (fr (g e)) S) → turnF (callF FF (k + 16)) (.name 7) [7] .none (.bi .tuple (.cons (.comp false [8] (.name 8) (.seq (.var 2)) .none (.idx (.var 8) (.var 7))) .nil)) [some t.d, some (.tup (fs.map fr)), some (.lst (lents (t.rows 0) es)), none, none, none, none, none, none] (.int j) S = .ok (some (.tup ((es.map g).map fr))) S := fun j g hg => by
      have hb : bindP (.name 7) (.int j) (wipeE [some t.d, some (.tup (fs.map fr)), some (.lst (lents (t.rows 0) es)), none, none, none, none, none, none] [7]) = some [some t.d, some (.tup (fs.map fr)), some (.lst (lents (t.rows 0) es)), none, none, none, none, some (.int j), none] := by simp [bindP, wipeE]
      have := cc j g [some t.d, some (.tup (fs.map fr)), some (.lst (lents (t.rows 0) es)), none, none, none, none, some (.int j), none] rfl rfl hg
      rw [turn_run hb]
      have hz' := hz g
      generalize (es.map g).map fr = X at *
      simp [this, hz', tuple_lst]
    rw [collect_run, one 0 (·.cost) (fun _ _ _ => idxF_t0), rb_ok, collect_run, one 1 (·.own) (fun _ _ _ => idxF_t1), rb_ok, collect_run, one 2 (·.cnt) (fun _ _ _ => idxF_t2), rb_ok]
    rfl
  have asc3 : ascend 0 3 = [.int 0, .int 1, .int 2] := rfl
  have asc2 : ascend 0 2 = [.int 0, .int 1] := rfl
  have sm3 : small 3 = true := by decide
  have sm2 : small 2 = true := by decide
  simp only [Nat.add_assoc, Nat.reduceAdd] at e1 e2 e3 e4 e5 e6 e7 e8 e9
  generalize (es.map (·.cost)).map fr = CL at *
  generalize (es.map (·.own)).map fr = OL at *
  generalize (es.map (·.cnt)).map fr = NL at *
  generalize lents (t.rows 0) es = LE at *
  have r1 := repr_ok (S := S) pl1
  have r2 := repr_ok (S := S) pl2
  have r3 := repr_ok (S := S) pl3
  have n1 := ne_same (S := S) pl1.1
  have n2 := ne_same (S := S) pl2.1
  have n3 := ne_same (S := S) pl3.1
  have w0 : idxF (.tup ((words (t.rows 0) es).map D.int)) (.int 0) S = .ok (.int (wordI t e)) S := by rw [hw0]; exact idxF_t0
  generalize (words (t.rows 0) es).map D.int = WL at *
  generalize hFS : fs.map fr = FS at *
  have bd : ∀ w5 w6, exec (callF FF (k + 16)) body38 [some t.d, some (.tup FS), some (.lst LE), some (.lst [.tup CL, .tup OL, .tup NL]), some (.tup WL), w5, w6, none, none] S =
      .ok (.nx [some t.d, some (.tup FS), some (.lst LE), some (.lst [.tup CL, .tup OL, .tup NL]), some (.tup WL), w5, some (.lst [.tup CL, .tup OL, .tup NL]), none, none]) S := fun w5 w6 => by
    simp [body38, e3, e4, e5, r1, n1, e6, r2, n2, e7, e8, w0, e9, r3, n3]
  rw [call_eq F_38 rfl]
  simp [f38, e1, e2, asc3, asc2, sm3, sm2, cd]
  rw [forF_cons, bodyF_name (by simp)]
  simp only [List.set_cons_succ, List.set_cons_zero]
  rw [bd]
  simp only [rb_ok, flR_nx]
  rw [forF_cons, bodyF_name (by simp)]
  simp only [List.set_cons_succ, List.set_cons_zero]
  rw [bd]
  simp
  rw [finR_rt rfl, List.take_length]
end
end Pf

set_option linter.all false
set_option Elab.async false
set_option maxRecDepth 100000
set_option maxHeartbeats 4000000
set_option autoImplicit false
/-! PfT1: texts of numbers and fractions -/
namespace Pf
open TL
theorem decS_nat (n : Nat) : decS (n : Int) = numL n := tl_num n
theorem decS_of {i : Int} (h : 0 ≤ i) : decS i = numL i.toNat := by
  obtain ⟨n, rfl⟩ := Int.eq_ofNat_of_zero_le h
  rw [decS_nat]
  rfl
/-- the first sign of a number -/
theorem numL_head : ∀ (n : Nat), 0 < n → ∃ c r, numL n = c :: r ∧ 49 ≤ c ∧ c ≤ 57 := by
  intro n
  induction n using Nat.strongRecOn with
  | _ n ih =>
    intro h
    by_cases h10 : n < 10
    · exact ⟨48 + n, [], numL_lt h10, by omega, by omega⟩
    · obtain ⟨c, r, e, h1, h2⟩ := ih (n / 10) (by omega) (by omega)
      exact ⟨c, r ++ [48 + n % 10], by rw [numL_step (by omega), e]; rfl, h1, h2⟩
theorem numL_dig {n : Nat} : ∀ c ∈ numL n, 48 ≤ c ∧ c ≤ 57 := fun c hc => numL_digits n c hc
theorem numL_len30 {n : Nat} (h : n < 10 ^ 30) : (numL n).length ≤ 30 := numL_len (by decide) h
theorem numL_len7 {n : Nat} (h : n < 10 ^ 7) : (numL n).length ≤ 7 := numL_len (by decide) h
section
variable {S : Store} {k : Nat}
theorem str_nat {n : Nat} (h : n < 2 ^ 1000) : biF .str [.int (n : Int)] S = .ok (.str (numL n)) S := by
  show (if (n : Int).natAbs.log2 < 1920 then R.ok (D.str (decS (n : Int))) S else .no) = _
  rw [decS_nat, if_pos]
  by_cases h0 : n = 0
  · subst h0; decide
  · have := Nat.log2_lt (n := n) (k := 1000) h0
    simp only [Int.natAbs_natCast]
    have := this.mpr h
    omega
theorem str_int {i : Int} (h0 : 0 ≤ i) (h : i < 2 ^ 1000) : biF .str [.int i] S = .ok (.str (numL i.toNat)) S := by
  have e : i = (i.toNat : Int) := by omega
  have := str_nat (S := S) (n := i.toNat) (by omega)
  rw [← e] at this
  exact this
theorem okD_str {s : List Nat} (h : ∀ c ∈ s, c < 0x110000) : okD (.str s) = true := by
  unfold okD
  have : cl (.str s) = true := List.all_eq_true.mpr fun c hc => decide_eq_true (h c hc)
  rw [this]; rfl
theorem cmp_str {s t : List Nat} (h : ∀ c ∈ s, c < 0x110000) (h2 : ∀ c ∈ t, c < 0x110000) : cmpF .eq (.str s) (.str t) S = .ok (.bl (s == t)) S := by
  show (if okD (.str s) && okD (.str t) then R.ok (D.bl (eqD (.str s) (.str t))) S else .no) = _
  rw [okD_str h, okD_str h2]; rfl
theorem cmp_strN {s t : List Nat} (h : ∀ c ∈ s, c < 0x110000) (h2 : ∀ c ∈ t, c < 0x110000) : cmpF .ne (.str s) (.str t) S = .ok (.bl (!(s == t))) S := by
  show (if okD (.str s) && okD (.str t) then R.ok (D.bl (!eqD (.str s) (.str t))) S else .no) = _
  rw [okD_str h, okD_str h2]; rfl
def sgR (x : D) (S : Store) : R (List D) := match x with
  | .str s => if s.length ≤ LINE then .ok (s.map fun c => .str [c]) S else .no
  | _ => .no
@[simp] theorem evI_sgn {cl : Nat → List D → M D} {ρ : Ev} {e : E} : evI cl (.sgn e) ρ S = rb (ev cl e ρ S) sgR := by
  rw [evI]; simp only [bind_rb]; congr 1; funext x S
  cases x with
  | str s => show (if s.length ≤ LINE then pure _ else no : M (List D)) S = _; unfold sgR; simp only; split <;> rfl
  | _ => rfl
theorem allB_true : ∀ {α : Type} (l : List α), allB (l.map fun _ => D.bl true) = some true
  | _, [] => rfl
  | _, x :: l => by
    show (allB (l.map fun _ => D.bl true)).map (true && ·) = some true
    rw [allB_true l]; rfl
theorem number_ok {n most : Nat} (hl : (numL n).length ≤ most) (hm : most ≤ 600) : callF FF (k + 1) 48 [.str (numL n), .int (most : Int)] S = .ok (.int (n : Int)) S := by
  have c1 : ev (callF FF k) c48_0 [some (.str (numL n)), some (.int (most : Int)), none] S = .ok (.lst ((numL n).map fun _ => .bl true)) S := by
    have h1 : collect (turnF (callF FF k) (.name 2) [2] .none (.cmp .inS (.var 2) (.con (.str [48, 49, 50, 51, 52, 53, 54, 55, 56, 57]))) [some (.str (numL n)), some (.int (most : Int)), none]) ((numL n).map fun c => .str [c]) S = .ok ((numL n).map fun _ => .bl true) S := by
      refine collect_maps fun c hc => ?_
      have hb : bindP (.name 2) (.str [c]) (wipeE [some (.str (numL n)), some (.int (most : Int)), none] [2]) = some [some (.str (numL n)), some (.int (most : Int)), some (.str [c])] := by simp [bindP, wipeE]
      obtain ⟨d1, d2⟩ := numL_dig c hc
      have hin : cmpF .inS (.str [c]) (.str [48, 49, 50, 51, 52, 53, 54, 55, 56, 57]) S = .ok (.bl true) S := by
        show R.ok (D.bl (decide (c ∈ [48, 49, 50, 51, 52, 53, 54, 55, 56, 57]))) S = _
        rw [decide_eq_true (by simp; omega)]
      rw [turn_run hb]
      simp [hin]
    have hz : ∀ (S : Store) (kk : Store → R D), szR ((numL n).map fun _ => D.bl true) S kk = kk S := fun S kk => if_pos (by rw [List.length_map]; unfold LINE; omega)
    have hsg : sgR (.str (numL n)) S = .ok ((numL n).map fun c => .str [c]) S := if_pos (by unfold LINE; omega)
    unfold c48_0
    simp [hsg, h1, hz]
  have c2 : biF .all [.lst ((numL n).map fun _ => .bl true)] S = .ok (.bl true) S := by
    show (match allB ((numL n).map fun _ => D.bl true) with | some b => R.ok (D.bl b) S | none => .no) = _
    rw [allB_true]
  generalize hBL : ((numL n).map fun _ => D.bl true) = BL at c1 c2
  have hne := numL_ne n
  have hpos : 0 < (numL n).length := List.length_pos_iff.mpr hne
  have ln : biF .len [.str (numL n)] S = .ok (.int ((numL n).length : Int)) S := by
    show (if (numL n).length ≤ LINE then R.ok (D.int (numL n).length) S else .no) = _
    rw [if_pos (by unfold LINE; omega)]
  have iv : biF .intS [.str (numL n)] S = .ok (.int (n : Int)) S := by
    show (if digB (numL n) = true then R.ok (D.int (PySem.NumText.digitsVal (numL n) : Nat)) S else .no) = _
    have : digB (numL n) = true := by
      unfold digB
      rw [decide_eq_true (by omega)]
      simp only [Bool.and_true, Bool.and_eq_true, Bool.not_eq_true']
      refine ⟨List.all_eq_true.mpr fun c hc => ?_, ?_⟩
      · obtain ⟨d1, d2⟩ := numL_dig c hc
        rw [decide_eq_true d1, decide_eq_true d2] <;> rfl
      · cases h : numL n with
        | nil => exact absurd h hne
        | cons => rfl
    rw [if_pos this, numL_val]
  have sg : ∀ c ∈ numL n, c < 0x110000 := fun c hc => by have := numL_dig c hc; omega
  have q1 := cmp_str (S := S) (s := numL n) (t := [48]) sg (by intro c hc; simp at hc; omega)
  rw [call_eq F_48 rfl]
  by_cases h0 : n = 0
  · subst h0
    have e0 : numL 0 = [48] := numL_lt (by decide)
    rw [e0] at c1 ln iv q1 ⊢
    have h2 : (1 : Int) ≤ (most : Int) := by rw [e0] at hl; have : 1 ≤ most := hl; omega
    simp [f48, ln, c1, c2, q1, iv, h2]
    rw [finR_rt rfl, List.take_length]
  · obtain ⟨c, r, e, d1, d2⟩ := numL_head n (by omega)
    have ix : idxF (.str (numL n)) (.int 0) S = .ok (.str [c]) S := by
      rw [e]
      show (match L2.atI (c :: r) 0 with | some c' => if (c :: r).length ≤ LINE then R.ok (D.str [c']) S else .no | none => .no) = _
      have : L2.atI (c :: r) ((0 : Nat) : Int) = some c := by rw [atI_nat]; rfl
      have this2 : L2.atI (c :: r) 0 = some c := this
      rw [this2]
      simp only
      rw [if_pos (by rw [← e]; unfold LINE; omega)]
    have q2 := cmp_strN (S := S) (s := [c]) (t := [48]) (by intro x hx; simp at hx; omega) (by intro c hc; simp at hc; omega)
    have nq : ((numL n) == [48]) = false := by rw [e]; simp; omega
    have nq2 : (([c] : List Nat) == [48]) = false := by simp; omega
    rw [nq] at q1
    rw [nq2] at q2
    have h1 : (1 : Int) ≤ ((numL n).length : Int) := by omega
    have h2 : ((numL n).length : Int) ≤ (most : Int) := by omega
    generalize numL n = N at *
    simp [f48, ln, h1, h2, c1, c2, q1, ix, q2, iv]
    rw [finR_rt rfl, List.take_length]
/-! fractions -/
def frT (f : Int × Int) : List Nat := numL f.1.toNat ++ 47 :: numL f.2.toNat
theorem addS {a b : List Nat} (h : a.length + b.length ≤ LINE) : opF .add (.str a) (.str b) S = .ok (.str (a ++ b)) S := if_pos h
theorem idx_f0 {f : Int × Int} : idxF (fr f) (.int 0) S = .ok (.int f.1) S := idxF_t0
theorem idx_f1 {f : Int × Int} : idxF (fr f) (.int 1) S = .ok (.int f.2) S := idxF_t1
structure FrS (f : Int × Int) : Prop where
  p0 : 0 ≤ f.1
  p1 : f.1 < 10 ^ 30
  q0 : 0 < f.2
  q1 : f.2 < 10 ^ 30
  g : Int.gcd f.1 f.2 = 1
theorem fraction_text_ok {f : Int × Int} (h : FrS f) : callF FF (k + 1) 51 [fr f] S = .ok (.str (frT f)) S := by
  have h1 := h.p0; have h2 := h.p1; have h3 := h.q0; have h4 := h.q1
  have e1 := fun S => str_int (S := S) h1 (Int.lt_trans h2 (by decide))
  have e2 := fun S => str_int (S := S) (Int.le_of_lt h3) (Int.lt_trans h4 (by decide))
  have l1 := numL_len30 (n := f.1.toNat) (by omega)
  have l2 := numL_len30 (n := f.2.toNat) (by omega)
  have a1 : ∀ S, opF .add (.str (numL f.1.toNat)) (.str [47]) S = .ok (.str (numL f.1.toNat ++ [47])) S := fun S => addS (by simp; unfold LINE; omega)
  have a2 : ∀ S, opF .add (.str (numL f.1.toNat ++ [47])) (.str (numL f.2.toNat)) S = .ok (.str (frT f)) S := fun S => by
    rw [addS (by simp; unfold LINE; omega)]
    unfold frT; simp
  rw [call_eq F_51 rfl]
  simp [f51, idx_f0, idx_f1, e1, e2, a1, a2]
  rw [finR_rt rfl, List.take_length]
theorem split_ok {c : Nat} {parts : List (List Nat)} (hc : c < 256) (hne : parts ≠ []) (hp : ∀ p ∈ parts, c ∉ p) (hl : (joinL [c] parts).length + 2 ≤ LINE) : mthF .split (.str (joinL [c] parts)) [.str [c]] S = .ok (.lst (parts.map .str)) S := by
  show (if ([c] : List Nat).isEmpty = false ∧ ([c] : List Nat).all (· < 256) = true ∧ (joinL [c] parts).length + 2 ≤ LINE then R.ok (D.lst ((spl [c] 0 [] (joinL [c] parts)).map .str)) S else .no) = _
  rw [if_pos ⟨rfl, by simpa using hc, hl⟩, spl_join hne hp]
theorem frT_join (f : Int × Int) : frT f = joinL [47] [numL f.1.toNat, numL f.2.toNat] := rfl
theorem fraction_of_ok {f : Int × Int} (h : FrS f) : callF FF (k + 3) 49 [.str (frT f)] S = .ok (fr f) S := by
  have h1 := h.p0; have h2 := h.p1; have h3 := h.q0; have h4 := h.q1
  have l1 := numL_len30 (n := f.1.toNat) (by omega)
  have l2 := numL_len30 (n := f.2.toNat) (by omega)
  have s1 : ∀ S, mthF .split (.str (frT f)) [.str [47]] S = .ok (.lst [.str (numL f.1.toNat), .str (numL f.2.toNat)]) S := fun S => by
    rw [frT_join, split_ok (by decide) (by simp) (by
      intro p hp
      simp at hp
      rcases hp with rfl | rfl
      · exact numL_free (by omega)
      · exact numL_free (by omega)) (by simp [joinL]; unfold LINE; omega)]
    rfl
  have n1 := fun S => number_ok (k := k + 1) (S := S) (n := f.1.toNat) (most := 30) l1 (by decide)
  have n2 := fun S => number_ok (k := k + 1) (S := S) (n := f.2.toNat) (most := 30) l2 (by decide)
  have v1 : ((f.1.toNat : Nat) : Int) = f.1 := by omega
  have v2 : ((f.2.toNat : Nat) : Int) = f.2 := by omega
  rw [v1] at n1
  rw [v2] at n2
  have lt := fun S => least_ok (k := k) (S := S) (p := f.1) h3 (Int.lt_trans h4 (by decide))
  have cs : can f.1 f.2 = f := can_self h.g
  rw [cs] at lt
  have hsh : sh (fr f) = true := by
    show (decide (f.1.natAbs < 2 ^ 200) && (decide (f.2.natAbs < 2 ^ 200) && true)) = true
    have hb : (10 : Int) ^ 30 < 2 ^ 200 := by decide
    rw [decide_eq_true (show f.1.natAbs < 2 ^ 200 by omega), decide_eq_true (show f.2.natAbs < 2 ^ 200 by omega)] <;> rfl
  have ne1 : ∀ S, cmpF .ne (fr f) (.tup [.int f.1, .int f.2]) S = .ok (.bl false) S := fun S => by
    have := cmp_ne_of (S := S) (a := fr f) (b := fr f) hsh hsh (by show 1 ≤ 60; decide) (by show 1 ≤ 60; decide)
    rw [eqD_refl hsh] at this
    exact this
  have rc : ∀ S, recvOk .split (.str (frT f)) S = true := fun S => rfl
  have z0 : (f.2 == 0) = false := by simp; omega
  have i1 : ∀ (i : Int) S, cmpF .is (.int i) .non S = .ok (.bl false) S := fun i S => rfl
  have l2 : ∀ (a b : D) S, biF .len [.lst [a, b]] S = .ok (.int 2) S := fun a b S => rfl
  have x1 : ∀ (a b : D) S, idxF (.lst [a, b]) (.int 1) S = .ok b S := fun a b S => idxF_l (n := 1) rfl
  rw [call_eq F_49 rfl]
  simp only [Nat.add_assoc, Nat.reduceAdd] at n1 n2 lt
  have n1' : ∀ S, callF FF (k + 2) 48 [.str (numL f.1.toNat), .int 30] S = .ok (.int f.1) S := n1
  have n2' : ∀ S, callF FF (k + 2) 48 [.str (numL f.2.toNat), .int 30] S = .ok (.int f.2) S := n2
  generalize frT f = T at *
  generalize numL f.1.toNat = N1 at *
  generalize numL f.2.toNat = N2 at *
  simp [f49, rc, s1, l2, x1, n1', n2', i1, z0, lt, ne1]
  rw [finR_rt rfl, List.take_length]
  rfl
end
end Pf

set_option linter.all false
set_option Elab.async false
set_option maxRecDepth 100000
set_option maxHeartbeats 4000000
set_option autoImplicit false
/-! PfT2: rows of texts -/
namespace Pf
open TL
def landS (h : Bool) : List Nat := if h then sHere else sAway
def upS (w : Bool) : List Nat := if w then sWhole else sOwn
def dnS (o : Bool) : List Nat := if o then sOwn else sNone
def Th.wd : Th → List (List Nat)
  | .raw h lo hi => [sRaw, landS h, numL lo.toNat, numL hi.toNat]
  | .made h lo hi s w o _ => [sMade, landS h, numL lo.toNat, numL hi.toNat, numL s.toNat, upS w, dnS o]
def dots (d : Nat) : List (List Nat) := if d = 0 then [] else [List.replicate d 46]
def rowW (t : Th) (d : Nat) : List (List Nat) := dots d ++ t.wd
def rowT (t : Th) (d : Nat) : List Nat := joinL [32] (rowW t d)
mutual
/-- the rows of a thing -/
def Th.tr : Th → Nat → List (List Nat)
  | .raw h lo hi, d => [rowT (.raw h lo hi) d]
  | .made h lo hi s w o ps, d => rowT (.made h lo hi s w o ps) d :: Th.trs ps (d + 1)
def Th.trs : List Th → Nat → List (List Nat)
  | [], _ => []
  | t :: ts, d => t.tr d ++ Th.trs ts d
end
theorem landD_S (h : Bool) : landD h = .str (landS h) := by cases h <;> rfl
theorem upD_S (h : Bool) : upD h = .str (upS h) := by cases h <;> rfl
theorem dnD_S (h : Bool) : dnD h = .str (dnS h) := by cases h <;> rfl
theorem joinL_cons {s : List Nat} (a : List Nat) : ∀ {ws : List (List Nat)}, ws ≠ [] → joinL s (a :: ws) = a ++ s ++ joinL s ws
  | [], h => absurd rfl h
  | b :: ws, _ => by show a ++ (s ++ joinL s (b :: ws)) = _; rw [List.append_assoc]
theorem joinL_app {s : List Nat} : ∀ {as bs : List (List Nat)}, as ≠ [] → bs ≠ [] → joinL s (as ++ bs) = joinL s as ++ s ++ joinL s bs
  | [], _, h, _ => absurd rfl h
  | [a], bs, _, h => joinL_cons a h
  | a :: b :: as, bs, _, h => by
    rw [List.cons_append, joinL_cons a (by simp), joinL_app (as := b :: as) (by simp) h, joinL_cons a (ws := b :: as) (by simp)]
    simp [List.append_assoc]
theorem joinL_len {c : Nat} : ∀ (ws : List (List Nat)), (joinL [c] ws).length ≤ (ws.map (·.length)).sum + ws.length
  | [] => Nat.zero_le _
  | [a] => by simp [joinL]
  | a :: b :: ws => by
    rw [joinL_cons a (by simp)]
    have := joinL_len (c := c) (b :: ws)
    simp at this ⊢
    omega
theorem asStrs_map : ∀ (ws : List (List Nat)), asStrs (ws.map .str) = some ws
  | [] => rfl
  | w :: ws => by
    show (asStrs (ws.map .str)).map (w :: ·) = some (w :: ws)
    rw [asStrs_map ws]; rfl
section
variable {S : Store} {k : Nat}
theorem join_ok {c : Nat} {ws : List (List Nat)} (h : (ws.map (·.length)).sum + ws.length ≤ LINE) : mthF .join (.str [c]) [.lst (ws.map .str)] S = .ok (.str (joinL [c] ws)) S := by
  show (match asStrs (ws.map D.str) with
    | some ys => if (ys.map fun y : List Nat => y.length).sum + ys.length * ([c] : List Nat).length ≤ LINE then R.ok (D.str (joinL [c] ys)) S else .no
    | none => .no) = _
  rw [asStrs_map]
  simp only
  rw [if_pos (by simpa using h)]
theorem finR_ref {l : List D} (h : belows S.length l = true) : finR true S.length (.ok (.rt (.ref S.length)) (S ++ [.lst l])) = .ok (.lst l) S := by
  show finF true S.length _ _ = _
  unfold finF
  have e := fz_new (S' := S ++ [.lst l]) (b := S.length) one0 (Nat.le_refl _) h
  simp only [if_true, e, List.take_left]
theorem belows_strs {b : Nat} (ws : List (List Nat)) : belows b (ws.map .str) = true := belows_of fun x hx => by
  obtain ⟨w, _, rfl⟩ := List.mem_map.mp hx
  rfl
theorem mulS_ok {d : Nat} (h : d ≤ 1000) : opF .mulS (.str [46]) (.int (d : Int)) S = .ok (.str (List.replicate d 46)) S := by
  show (if 0 ≤ (d : Int) ∧ (d : Int) ≤ 1000 ∧ ([46] : List Nat).length ≤ 1000 then R.ok (D.str (List.replicate (d : Int).toNat [46]).flatten) S else .no) = _
  rw [if_pos ⟨by omega, by omega, by decide⟩]
  have : ∀ n : Nat, (List.replicate n [46]).flatten = List.replicate n 46 := fun n => by
    induction n with
    | zero => rfl
    | succ n ih => rw [List.replicate_succ, List.flatten_cons, ih, List.replicate_succ]; rfl
  rw [Int.toNat_natCast, this]
theorem raw_c : cmpF .eq (.str sRaw) (.str [109, 97, 100, 101]) S = .ok (.bl false) S := rfl
theorem made_c : cmpF .eq (.str sMade) (.str [109, 97, 100, 101]) S = .ok (.bl true) S := rfl
theorem raw_r : cmpF .eq (.str sRaw) (.str [114, 97, 119]) S = .ok (.bl true) S := rfl
theorem made_r : cmpF .eq (.str sMade) (.str [114, 97, 119]) S = .ok (.bl false) S := rfl
theorem str_small {i : Int} (h0 : 0 ≤ i) (h : i ≤ 1000000) : biF .str [.int i] S = .ok (.str (numL i.toNat)) S := str_int h0 (by
  have : (1000000 : Int) < 2 ^ 1000 := by decide
  omega)
theorem words_ok {t : Th} {d : Nat} (hk : t.ok) (hd : d ≤ 100) : callF FF (k + 1) 58 [t.d, .int (d : Int)] S = .ok (.lst ((rowW t d).map .str)) S := by
  have m1 : ∀ S, opF .mulS (.str [46]) (.int (d : Int)) S = .ok (.str (List.replicate d 46)) S := fun S => mulS_ok (by omega)
  have x1 : ∀ (l r : List (List Nat)), l.length + r.length ≤ 100 → mthF .extend (.ref S.length) [.lst (r.map .str)] (S ++ [.lst (l.map .str)]) = .ok .non (S ++ [.lst ((l ++ r).map .str)]) := fun l r h => by
    rw [mth_extend one0 (by simp; unfold LINE; omega) (belows_strs _), one0s, List.map_append]
  have rc : ∀ l : List (List Nat), recvOk .extend (.ref S.length) (S ++ [.lst (l.map .str)]) = true := fun l => recv_app (m := .extend) one0
  have fin : ∀ l : List (List Nat), finR true S.length (.ok (.rt (.ref S.length)) (S ++ [.lst (l.map .str)])) = .ok (.lst (l.map .str)) S := fun l => finR_ref (belows_strs _)
  have b := Th.bounds hk
  have dl : (dots d).length ≤ 1 := by unfold dots; split <;> simp
  rw [call_eq F_58 rfl]
  cases t with
  | raw h lo hi =>
    have b1 : 0 ≤ lo ∧ lo ≤ hi ∧ hi ≤ 1000000 := b
    have s1 : ∀ S, biF .str [.int lo] S = .ok (.str (numL lo.toNat)) S := fun S => str_small (by omega) (by omega)
    have s2 : ∀ S, biF .str [.int hi] S = .ok (.str (numL hi.toNat)) S := fun S => str_small (by omega) (by omega)
    have x := x1 (dots d) (Th.raw h lo hi).wd (by simp [Th.wd]; omega)
    have rr := rc (dots d)
    have ff := fin (rowW (.raw h lo hi) d)
    rw [Th.d, landD_S]
    unfold rowW at ff ⊢
    simp only [Th.wd, List.map_cons, List.map_nil] at x
    by_cases h0 : d = 0
    · subst h0
      simp only [dots, if_true, List.map_nil, List.nil_append] at x rr ff ⊢
      simp [f58, rr, s1, s2, x, raw_c]
      simpa [Th.wd] using ff
    · have hd0 : 0 < d := by omega
      simp only [dots, if_neg h0, List.map_cons, List.map_nil] at x rr ff ⊢
      simp [f58, m1, hd0, rr, s1, s2, x, raw_c]
      simpa [Th.wd] using ff
  | made h lo hi s w o ps =>
    have b1 : 0 ≤ lo ∧ lo ≤ hi ∧ hi ≤ 1000000 := b
    obtain ⟨_, ⟨b4, b5⟩, _, _⟩ := (show (0 ≤ lo ∧ lo ≤ hi ∧ hi ≤ 1000000) ∧ (0 ≤ s ∧ s ≤ 100) ∧ (1 ≤ ps.length ∧ ps.length ≤ 4) ∧ Th.oks ps by simpa only [Th.ok] using hk)
    have s1 : ∀ S, biF .str [.int lo] S = .ok (.str (numL lo.toNat)) S := fun S => str_small (by omega) (by omega)
    have s2 : ∀ S, biF .str [.int hi] S = .ok (.str (numL hi.toNat)) S := fun S => str_small (by omega) (by omega)
    have s3 : ∀ S, biF .str [.int s] S = .ok (.str (numL s.toNat)) S := fun S => str_small (by omega) (by omega)
    have x := x1 (dots d) [sMade, landS h, numL lo.toNat, numL hi.toNat] (by simp; omega)
    have y := x1 (dots d ++ [sMade, landS h, numL lo.toNat, numL hi.toNat]) [numL s.toNat, upS w, dnS o] (by simp; omega)
    have rr := rc (dots d)
    have rr2 := rc (dots d ++ [sMade, landS h, numL lo.toNat, numL hi.toNat])
    have ff := fin (rowW (.made h lo hi s w o ps) d)
    have e : rowW (.made h lo hi s w o ps) d = dots d ++ [sMade, landS h, numL lo.toNat, numL hi.toNat] ++ [numL s.toNat, upS w, dnS o] := by simp [rowW, Th.wd]
    rw [e] at ff ⊢
    rw [Th.d, landD_S, termD, upD_S, dnD_S]
    generalize hA : dots d ++ [sMade, landS h, numL lo.toNat, numL hi.toNat] = A at *
    generalize hB : A ++ [numL s.toNat, upS w, dnS o] = B at *
    clear e
    generalize A.map D.str = AA at *
    generalize B.map D.str = BB at *
    simp only [List.map_cons, List.map_nil] at x y
    by_cases h0 : d = 0
    · subst h0
      simp only [dots, if_true, List.map_nil] at x rr
      simp [f58, rr, s1, s2, x, made_c, rr2, s3, y]
      exact ff
    · have hd0 : 0 < d := by omega
      simp only [dots, if_neg h0, List.map_cons, List.map_nil] at x rr
      simp [f58, m1, hd0, rr, s1, s2, x, made_c, rr2, s3, y]
      exact ff
/-! the text, as the program writes it -/
theorem wd_sum (t : Th) (hk : t.ok) : (t.wd.map (·.length)).sum ≤ 50 ∧ t.wd.length ≤ 7 := by
  have b := Th.bounds hk
  have l1 : ∀ i : Int, 0 ≤ i → i ≤ 1000000 → (numL i.toNat).length ≤ 7 := fun i h0 h1 => numL_len7 (by omega)
  have a1 : ∀ h, (landS h).length ≤ 4 := fun h => by cases h <;> decide
  have a2 : ∀ h, (upS h).length ≤ 5 := fun h => by cases h <;> decide
  have a3 : ∀ h, (dnS h).length ≤ 4 := fun h => by cases h <;> decide
  cases t with
  | raw h lo hi =>
    have b1 : 0 ≤ lo ∧ lo ≤ hi ∧ hi ≤ 1000000 := b
    have q1 := l1 lo (by omega) (by omega)
    have q2 := l1 hi (by omega) (by omega)
    have q3 := a1 h
    refine ⟨?_, by show 4 ≤ 7; decide⟩
    show 3 + ((landS h).length + ((numL lo.toNat).length + ((numL hi.toNat).length + 0))) ≤ 50
    omega
  | made h lo hi s w o ps =>
    have b1 : 0 ≤ lo ∧ lo ≤ hi ∧ hi ≤ 1000000 := b
    obtain ⟨_, ⟨b4, b5⟩, _, _⟩ := (show (0 ≤ lo ∧ lo ≤ hi ∧ hi ≤ 1000000) ∧ (0 ≤ s ∧ s ≤ 100) ∧ (1 ≤ ps.length ∧ ps.length ≤ 4) ∧ Th.oks ps by simpa only [Th.ok] using hk)
    have q1 := l1 lo (by omega) (by omega)
    have q2 := l1 hi (by omega) (by omega)
    have q4 := l1 s (by omega) (by omega)
    have q3 := a1 h
    have q5 := a2 w
    have q6 := a3 o
    refine ⟨?_, by show 7 ≤ 7; decide⟩
    show 4 + ((landS h).length + ((numL lo.toNat).length + ((numL hi.toNat).length + ((numL s.toNat).length + ((upS w).length + ((dnS o).length + 0)))))) ≤ 50
    omega
theorem rowW_sum {t : Th} {d : Nat} (hk : t.ok) : ((rowW t d).map (·.length)).sum + (rowW t d).length ≤ 60 + d := by
  obtain ⟨h1, h2⟩ := wd_sum t hk
  unfold rowW dots
  split <;> simp <;> omega
theorem rowT_len {t : Th} {d : Nat} (hk : t.ok) : (rowT t d).length ≤ 60 + d := Nat.le_trans (joinL_len _) (rowW_sum hk)
theorem Th.tr_ne (t : Th) (d : Nat) : t.tr d ≠ [] := by cases t <;> simp [Th.tr]
mutual
theorem Th.tr_len : ∀ (t : Th) (d : Nat), (t.tr d).length = t.size
  | .raw h lo hi, d => rfl
  | .made h lo hi s w o ps, d => by rw [Th.tr, List.length_cons, Th.trs_len ps (d + 1), Th.size]
theorem Th.trs_len : ∀ (ts : List Th) (d : Nat), (Th.trs ts d).length = Th.sizes ts
  | [], _ => rfl
  | t :: ts, d => by rw [Th.trs, List.length_append, Th.tr_len t d, Th.trs_len ts d, Th.sizes]
end
mutual
theorem Th.tr_sum : ∀ {t : Th} {d : Nat}, t.ok → ((t.tr d).map (·.length)).sum ≤ t.size * (60 + d + t.size)
  | .raw h lo hi, d, hk => by
    have := rowT_len (d := d) hk
    simp [Th.tr, Th.size]; omega
  | .made h lo hi s w o ps, d, hk => by
    have h1 := rowT_len (d := d) hk
    obtain ⟨_, _, _, hps⟩ := (show (0 ≤ lo ∧ lo ≤ hi ∧ hi ≤ 1000000) ∧ (0 ≤ s ∧ s ≤ 100) ∧ (1 ≤ ps.length ∧ ps.length ≤ 4) ∧ Th.oks ps by simpa only [Th.ok] using hk)
    have h2 := Th.trs_sum (d := d + 1) hps
    rw [Th.tr, Th.size]
    simp only [List.map_cons, List.sum_cons]
    have e1 : 60 + (d + 1) + Th.sizes ps = 60 + d + (Th.sizes ps + 1) := by omega
    rw [e1] at h2
    have e2 : (Th.sizes ps + 1) * (60 + d + (Th.sizes ps + 1)) = Th.sizes ps * (60 + d + (Th.sizes ps + 1)) + (60 + d + (Th.sizes ps + 1)) := Nat.succ_mul ..
    rw [e2]
    omega
theorem Th.trs_sum : ∀ {ts : List Th} {d : Nat}, Th.oks ts → ((Th.trs ts d).map (·.length)).sum ≤ Th.sizes ts * (60 + d + Th.sizes ts)
  | [], _, _ => by simp [Th.trs]
  | t :: ts, d, hk => by
    obtain ⟨k1, k2⟩ := (show t.ok ∧ Th.oks ts by simpa only [Th.oks] using hk)
    have h1 := Th.tr_sum (d := d) k1
    have h2 := Th.trs_sum (d := d) k2
    rw [Th.trs, Th.sizes, List.map_append, List.sum_append, Nat.add_mul]
    have g1 : t.size * (60 + d + t.size) ≤ t.size * (60 + d + (t.size + Th.sizes ts)) := Nat.mul_le_mul_left _ (by omega)
    have g2 : Th.sizes ts * (60 + d + Th.sizes ts) ≤ Th.sizes ts * (60 + d + (t.size + Th.sizes ts)) := Nat.mul_le_mul_left _ (by omega)
    omega
end
end
end Pf

set_option linter.all false
set_option Elab.async false
set_option maxRecDepth 100000
set_option maxHeartbeats 4000000
set_option autoImplicit false
/-! PfT3: the text of a good, as the program and as the law write it -/
namespace Pf
open TL
section
variable {S : Store} {k : Nat}
theorem rows_loop {cl : Nat → List D → M D} {N d : Nat} {v0 : Option D} (H : ∀ (t : Th) (S : Store), t.size ≤ N → t.ok → cl 59 [t.d, .int ((d : Int) + 1)] S = .ok (.lst ((t.tr (d + 1)).map .str)) S) :
    ∀ (ps : List Th) (rs : List (List Nat)) (w : Option D), Th.oks ps → Th.sizes ps ≤ N → rs.length + Th.sizes ps ≤ 100000 →
    ∃ w', forF (bodyF cl (.name 3) b59_0) (Th.ds ps) [v0, some (.int (d : Int)), some (.ref S.length), w] (S ++ [.lst (rs.map .str)]) = .ok (.nx [v0, some (.int (d : Int)), some (.ref S.length), w']) (S ++ [.lst ((rs ++ Th.trs ps (d + 1)).map .str)])
  | [], rs, w, _, _, _ => ⟨w, by simp [Th.ds, Th.trs]⟩
  | p :: ps, rs, w, hk, hN, hl => by
    obtain ⟨k1, k2⟩ := (show p.ok ∧ Th.oks ps by simpa only [Th.oks] using hk)
    rw [Th.sizes] at hN hl
    have hlen := Th.tr_len p (d + 1)
    obtain ⟨w', e⟩ := rows_loop (v0 := v0) H ps (rs ++ p.tr (d + 1)) (some p.d) k2 (by omega) (by rw [List.length_append, hlen]; omega)
    refine ⟨w', ?_⟩
    have e1 := H p (S ++ [.lst (rs.map .str)]) (by omega) k1
    have x1 := mth_extend (S := S ++ [.lst (rs.map .str)]) (x := (p.tr (d + 1)).map .str) one0 (by simp only [List.length_map, hlen]; unfold LINE; omega) (belows_strs _)
    rw [one0s, ← List.map_append] at x1
    have rc := recv_app (m := .extend) (S := S ++ [.lst (rs.map .str)]) one0
    rw [Th.ds, forF_cons, bodyF_name (by simp), Th.trs]
    rw [List.append_assoc] at e
    generalize (p.tr (d + 1)).map D.str = PT at *
    generalize rs.map D.str = RT at *
    generalize (rs ++ p.tr (d + 1)).map D.str = QT at *
    simp [-List.map_append, b59_0, rc, e1, x1]
    unfold b59_0 at e
    exact e
theorem rows_of_ok : ∀ (N : Nat) (t : Th) (k d : Nat) (S : Store), t.size ≤ N → d + N ≤ 50 → t.ok → callF FF (k + N + 1) 59 [t.d, .int (d : Int)] S = .ok (.lst ((t.tr d).map .str)) S := by
  intro N
  induction N with
  | zero => intro t k d S h; cases t <;> simp [Th.size] at h
  | succ N ih =>
    intro t k d S h hd hk
    have w1 := fun S => words_ok (k := k + N) (S := S) (d := d) hk (by omega)
    have hs := rowW_sum (d := d) hk
    have j1 : ∀ S, mthF .join (.str [32]) [.lst ((rowW t d).map .str)] S = .ok (.str (rowT t d)) S := fun S => join_ok (by unfold LINE; omega)
    have rc : ∀ S, recvOk .join (.str [32]) S = true := fun S => rfl
    rw [show k + (N + 1) + 1 = k + N + 1 + 1 by omega, call_eq F_59 rfl]
    have fin : ∀ l : List (List Nat), finR true S.length (.ok (.rt (.ref S.length)) (S ++ [.lst (l.map .str)])) = .ok (.lst (l.map .str)) S := fun l => finR_ref (belows_strs _)
    cases t with
    | raw hh lo hi =>
      have ff := fin [rowT (.raw hh lo hi) d]
      have tf : ∀ S, getFR (.tup []) S = .ok [] S := fun S => rfl
      have hd : ∀ S, idxF (Th.raw hh lo hi).d (.int 0) S = .ok (.str sRaw) S := fun S => by rw [Th.d]; exact idxF_t0
      rw [Th.tr]
      generalize (Th.raw hh lo hi).d = X at *
      generalize rowT (.raw hh lo hi) d = RT at *
      generalize (rowW (.raw hh lo hi) d).map D.str = RW at *
      simp [f59, rc, w1, j1, hd, raw_c]
      simpa using ff
    | made hh lo hi s w o ps =>
      have k' := (show (0 ≤ lo ∧ lo ≤ hi ∧ hi ≤ 1000000) ∧ (0 ≤ s ∧ s ≤ 100) ∧ (1 ≤ ps.length ∧ ps.length ≤ 4) ∧ Th.oks ps by simpa only [Th.ok] using hk)
      rw [Th.size] at h
      have hd : ∀ S, idxF (Th.made hh lo hi s w o ps).d (.int 0) S = .ok (.str sMade) S := fun S => by rw [Th.d]; exact idxF_t0
      have h5 : ∀ S, idxF (Th.made hh lo hi s w o ps).d (.int 5) S = .ok (.tup (Th.ds ps)) S := fun S => by rw [Th.d]; exact idxF_t5
      obtain ⟨w', e⟩ := rows_loop (S := S) (cl := callF FF (k + N + 1)) (N := N) (d := d) (v0 := some (Th.made hh lo hi s w o ps).d) (fun t S h1 h2 => ih t k (d + 1) S h1 (by omega) h2) ps [rowT (.made hh lo hi s w o ps) d] none k'.2.2.2 (by omega) (by simp; omega)
      have ff := fin (rowT (.made hh lo hi s w o ps) d :: Th.trs ps (d + 1))
      rw [Th.tr]
      simp only [List.map_cons, List.map_nil, List.singleton_append] at e ff ⊢
      generalize (Th.made hh lo hi s w o ps).d = X at *
      generalize rowT (.made hh lo hi s w o ps) d = RT at *
      generalize (rowW (.made hh lo hi s w o ps) d).map D.str = RW at *
      simp [f59, rc, w1, j1, hd, made_c, h5]
      rw [e]
      simp
      exact ff
def Th.text (t : Th) : List Nat := joinL [10] (t.tr 0)
theorem tr_line {t : Th} {d : Nat} (hk : t.ok) (hs : t.size ≤ 10) (hd : d ≤ 20) : ((t.tr d).map (·.length)).sum + (t.tr d).length ≤ 1000 := by
  have h1 := Th.tr_sum (d := d) hk
  have h2 := Th.tr_len t d
  have h3 : t.size * (60 + d + t.size) ≤ 10 * 90 := Nat.mul_le_mul hs (by omega)
  omega
theorem good_text_ok {t : Th} (h : Good t) : callF FF (k + 14) 60 [t.d] S = .ok (.str t.text) S := by
  have e1 := need_good_ok (k := k) (S := S) h
  have e2 := rows_of_ok 10 t (k + 2) 0 S h.sz (by decide) h.ok
  have hl := tr_line (d := 0) h.ok h.sz (by decide)
  have j1 : mthF .join (.str [10]) [.lst ((t.tr 0).map .str)] S = .ok (.str t.text) S := join_ok (by unfold LINE; omega)
  have rc : ∀ S, recvOk .join (.str [10]) S = true := fun S => rfl
  have e2' : callF FF (k + 13) 59 [t.d, .int 0] S = .ok (.lst ((t.tr 0).map .str)) S := e2
  rw [call_eq F_60 rfl]
  generalize (t.tr 0).map D.str = TT at *
  simp [f60, rc, e1, e2', j1]
  rw [finR_rt rfl, List.take_length]
/-! the law's way -/
def dotT (d : Nat) : List Nat := if d = 0 then [] else List.replicate d 46 ++ [32]
theorem rowT_dots {t : Th} {d : Nat} : rowT t d = dotT d ++ joinL [32] t.wd := by
  unfold rowT rowW dots dotT
  have : t.wd ≠ [] := by cases t <;> simp [Th.wd]
  split
  · rfl
  · rw [List.singleton_append, joinL_cons _ this]
theorem joins_eq {s : List Nat} : ∀ {ps : List Th} {d : Nat} {r : List Nat}, joinL s (r :: Th.trs ps d) = ps.foldl (fun acc p => acc ++ s ++ joinL s (p.tr d)) r
  | [], d, r => by simp [Th.trs, joinL]
  | p :: ps, d, r => by
    rw [List.foldl_cons, Th.trs, ← joins_eq (ps := ps) (d := d)]
    have hp := Th.tr_ne p d
    cases hq : Th.trs ps d with
    | nil => rw [List.append_nil, joinL_cons _ hp]; rfl
    | cons a as =>
      rw [joinL_cons r (by simp), joinL_app hp (by simp), joinL_cons (r ++ s ++ joinL s (p.tr d)) (ws := a :: as) (by simp)]
      simp [List.append_assoc]
def fT (d : Nat) (r : List Nat) (ps : List Th) : List Nat := ps.foldl (fun acc p => acc ++ [10] ++ joinL [10] (p.tr d)) r
theorem fT_cons (d : Nat) (r : List Nat) (p : Th) (ps : List Th) : fT d r (p :: ps) = fT d (r ++ [10] ++ joinL [10] (p.tr d)) ps := rfl
theorem fold_len {d N : Nat} : ∀ (ps : List Th) (r : List Nat), Th.oks ps → Th.sizes ps ≤ N → N ≤ 10 → d ≤ 20 → (ps.foldl (fun acc p => acc ++ [10] ++ joinL [10] (p.tr d)) r).length ≤ r.length + 1001 * ps.length
  | [], r, _, _, _, _ => by simp
  | p :: ps, r, hk, hN, h10, hd => by
    obtain ⟨k1, k2⟩ := (show p.ok ∧ Th.oks ps by simpa only [Th.oks] using hk)
    rw [Th.sizes] at hN
    rw [List.foldl_cons]
    have h1 := fold_len (d := d) ps (r ++ [10] ++ joinL [10] (p.tr d)) k2 (by omega) h10 hd
    have h2 := tr_line (d := d) k1 (by omega) hd
    have h3 := joinL_len (c := 10) (p.tr d)
    simp at h1 ⊢
    omega
theorem lt_loop {cl : Nat → List D → M D} {N d : Nat} {v0 : Option D} (hN10 : N ≤ 10) (hd : d + 1 ≤ 20) (H : ∀ (t : Th) (S : Store), t.size ≤ N → t.ok → cl 61 [t.d, .int ((d : Int) + 1)] S = .ok (.str (joinL [10] (t.tr (d + 1)))) S) :
    ∀ (ps : List Th) (r : List Nat) (w : Option D), Th.oks ps → Th.sizes ps ≤ N → r.length + 2000 * ps.length ≤ 100000 →
    ∃ w', forF (bodyF cl (.name 3) b61_0) (Th.ds ps) [v0, some (.int (d : Int)), some (.str r), w] S = .ok (.nx [v0, some (.int (d : Int)), some (.str (fT (d + 1) r ps)), w']) S
  | [], r, w, _, _, _ => ⟨w, by simp [Th.ds, fT]⟩
  | p :: ps, r, w, hk, hN, hl => by
    obtain ⟨k1, k2⟩ := (show p.ok ∧ Th.oks ps by simpa only [Th.oks] using hk)
    rw [Th.sizes] at hN
    rw [List.length_cons] at hl
    have h2 := tr_line (d := d + 1) k1 (by omega) hd
    have h3 := joinL_len (c := 10) (p.tr (d + 1))
    have e1 := fun S => H p S (by omega) k1
    generalize hJ : joinL [10] (p.tr (d + 1)) = J at *
    obtain ⟨w', e⟩ := lt_loop (v0 := v0) hN10 hd H ps (r ++ [10] ++ J) (some p.d) k2 (by omega) (by simp; omega)
    refine ⟨w', ?_⟩
    have a1 : ∀ S, opF .add (.str r) (.str [10]) S = .ok (.str (r ++ [10])) S := fun S => addS (by simp; unfold LINE; omega)
    have a2 : ∀ S, opF .add (.str (r ++ [10])) (.str J) S = .ok (.str (r ++ [10] ++ J)) S := fun S => addS (by simp; unfold LINE; omega)
    rw [Th.ds, forF_cons, bodyF_name (by simp), fT_cons, hJ]
    generalize hr2 : r ++ [10] ++ J = r2 at *
    generalize r ++ [10] = r1 at *
    simp [b61_0, a1, e1, a2]
    unfold b61_0 at e
    exact e
theorem law_text_ok : ∀ (N : Nat) (t : Th) (k d : Nat) (S : Store), t.size ≤ N → N ≤ 10 → d + N ≤ 20 → t.ok → callF FF (k + N) 61 [t.d, .int (d : Int)] S = .ok (.str (joinL [10] (t.tr d))) S := by
  intro N
  induction N with
  | zero => intro t k d S h; cases t <;> simp [Th.size] at h
  | succ N ih =>
    intro t k d S h h10 hd hk
    have m1 : ∀ S, opF .mulS (.str [46]) (.int (d : Int)) S = .ok (.str (List.replicate d 46)) S := fun S => mulS_ok (by omega)
    have a0 : ∀ S, opF .add (.str (List.replicate d 46)) (.str [32]) S = .ok (.str (List.replicate d 46 ++ [32])) S := fun S => addS (by simp; unfold LINE; omega)
    have b := Th.bounds hk
    have ws := wd_sum t hk
    have rc : ∀ S, recvOk .join (.str [32]) S = true := fun S => rfl
    have dl : (dotT d).length ≤ d + 1 := by unfold dotT; split <;> simp
    have rt := rowT_dots (t := t) (d := d)
    rw [show k + (N + 1) = k + N + 1 by omega, call_eq F_61 rfl]
    have step : ∀ (T : St) (X : D) (ρr : List (Option D)), ρr.length = 1 → True := fun _ _ _ _ => trivial
    cases t with
    | raw hh lo hi =>
      have b1 : 0 ≤ lo ∧ lo ≤ hi ∧ hi ≤ 1000000 := b
      have s1 : ∀ S, biF .str [.int lo] S = .ok (.str (numL lo.toNat)) S := fun S => str_small (by omega) (by omega)
      have s2 : ∀ S, biF .str [.int hi] S = .ok (.str (numL hi.toNat)) S := fun S => str_small (by omega) (by omega)
      have j1 : ∀ S, mthF .join (.str [32]) [.lst [.str sRaw, .str (landS hh), .str (numL lo.toNat), .str (numL hi.toNat)]] S = .ok (.str (joinL [32] (Th.raw hh lo hi).wd)) S := fun S => join_ok (ws := (Th.raw hh lo hi).wd) (by unfold LINE; omega)
      have jl := joinL_len (c := 32) (Th.raw hh lo hi).wd
      have a1 : ∀ S, opF .add (.str (dotT d)) (.str (joinL [32] (Th.raw hh lo hi).wd)) S = .ok (.str (rowT (.raw hh lo hi) d)) S := fun S => by rw [rt]; exact addS (by unfold LINE; omega)
      rw [Th.tr]
      show _ = R.ok (D.str (rowT (.raw hh lo hi) d)) S
      rw [Th.d, landD_S]
      generalize rowT (.raw hh lo hi) d = RT at *
      generalize joinL [32] (Th.raw hh lo hi).wd = JW at *
      by_cases h0 : d = 0
      · subst h0
        simp only [dotT, if_true] at a1
        simp [f61, rc, s1, s2, j1, a1, raw_r]
        rw [finR_rt rfl, List.take_length]
      · have hd0 : 0 < d := by omega
        simp only [dotT, if_neg h0] at a1
        simp [f61, hd0, m1, a0, rc, s1, s2, j1, a1, raw_r]
        rw [finR_rt rfl, List.take_length]
    | made hh lo hi s w o ps =>
      have b1 : 0 ≤ lo ∧ lo ≤ hi ∧ hi ≤ 1000000 := b
      obtain ⟨_, ⟨b4, b5⟩, ⟨pl1, pl2⟩, hps⟩ := (show (0 ≤ lo ∧ lo ≤ hi ∧ hi ≤ 1000000) ∧ (0 ≤ s ∧ s ≤ 100) ∧ (1 ≤ ps.length ∧ ps.length ≤ 4) ∧ Th.oks ps by simpa only [Th.ok] using hk)
      rw [Th.size] at h
      have s1 : ∀ S, biF .str [.int lo] S = .ok (.str (numL lo.toNat)) S := fun S => str_small (by omega) (by omega)
      have s2 : ∀ S, biF .str [.int hi] S = .ok (.str (numL hi.toNat)) S := fun S => str_small (by omega) (by omega)
      have s3 : ∀ S, biF .str [.int s] S = .ok (.str (numL s.toNat)) S := fun S => str_small (by omega) (by omega)
      generalize hW4 : [sMade, landS hh, numL lo.toNat, numL hi.toNat] = W4 at *
      generalize hW3 : [numL s.toNat, upS w, dnS o] = W3 at *
      have hwd : (Th.made hh lo hi s w o ps).wd = W4 ++ W3 := by rw [← hW4, ← hW3]; rfl
      rw [hwd] at ws rt
      simp only [List.map_append, List.sum_append, List.length_append] at ws
      have j1 : ∀ S, mthF .join (.str [32]) [.lst (W4.map .str)] S = .ok (.str (joinL [32] W4)) S := fun S => join_ok (by unfold LINE; omega)
      have jl := joinL_len (c := 32) W4
      have hn4 : W4 ≠ [] := by rw [← hW4]; simp
      have hn3 : W3 ≠ [] := by rw [← hW3]; simp
      have a1 : ∀ S, opF .add (.str (dotT d)) (.str (joinL [32] W4)) S = .ok (.str (dotT d ++ joinL [32] W4)) S := fun S => addS (by unfold LINE; omega)
      have rt2 : rowT (.made hh lo hi s w o ps) d = joinL [32] ((dotT d ++ joinL [32] W4) :: W3) := by
        rw [rt, joinL_app hn4 hn3, joinL_cons _ hn3]
        simp [List.append_assoc]
      have j2 : ∀ S, mthF .join (.str [32]) [.lst (((dotT d ++ joinL [32] W4) :: W3).map .str)] S = .ok (.str (rowT (.made hh lo hi s w o ps) d)) S := fun S => by
        rw [rt2]
        exact join_ok (by simp; unfold LINE; omega)
      have hrl := rowT_len (d := d) hk
      obtain ⟨w', e⟩ := lt_loop (S := S) (cl := callF FF (k + N)) (N := N) (d := d) (v0 := some (Th.made hh lo hi s w o ps).d) (by omega) (by omega) (fun t S h1 h2 => ih t k (d + 1) S h1 (by omega) (by omega) h2) ps (rowT (.made hh lo hi s w o ps) d) none hps (by omega) (by omega)
      unfold fT at e
      rw [← joins_eq] at e
      rw [Th.tr]
      generalize hRES : joinL [10] (rowT (.made hh lo hi s w o ps) d :: Th.trs ps (d + 1)) = RES at *
      generalize rowT (.made hh lo hi s w o ps) d = RT at *
      generalize joinL [32] W4 = JW at *
      rw [← hW4] at j1
      rw [← hW3] at j2
      simp only [List.map_cons, List.map_nil] at j1 j2
      rw [Th.d, landD_S, termD, upD_S, dnD_S] at e ⊢
      generalize hFD : dotT d ++ JW = FD at *
      by_cases h0 : d = 0
      · subst h0
        simp only [dotT, if_true] at a1
        simp [f61, rc, s1, s2, j1, a1, made_r, s3, j2] at e ⊢
        rw [e]
        simp
        rw [finR_rt rfl, List.take_length]
      · have hd0 : 0 < d := by omega
        simp only [dotT, if_neg h0] at a1
        simp [f61, hd0, m1, a0, rc, s1, s2, j1, a1, made_r, s3, j2] at e ⊢
        rw [e]
        simp
        rw [finR_rt rfl, List.take_length]
end
end Pf

set_option linter.all false
set_option Elab.async false
set_option maxRecDepth 100000
set_option maxHeartbeats 4000000
set_option autoImplicit false
/-! PfT4: a row is read -/
namespace Pf
open TL
/-- a thing without its parts -/
def Th.hd : Th → D
  | .raw h lo hi => .tup [.str sRaw, .str (landS h), .int lo, .int hi]
  | .made h lo hi s w o _ => .tup [.str sMade, .str (landS h), .int lo, .int hi, .tup [.int s, .str (upS w), .str (dnS o)]]
section
variable {S : Store} {k : Nat}
theorem sli_tail {x : D} {l : List D} : sliF (.lst (x :: l)) (some 1) none S = .ok (.lst l) S := by
  show R.ok (D.lst (cut (x :: l) (some 1) none)) S = _
  unfold cut
  have e1 : HT.sIx (x :: l).length 0 (some 1) = 1 := by
    have := HT.sIx_nat (x :: l).length 0 1
    rw [show ((1 : Nat) : Int) = 1 from rfl] at this
    rw [this, List.length_cons]; omega
  rw [e1, HT.sIx_none]
  simp
theorem depth_in_ok {t : Th} {d : Nat} (hd : d ≤ 100) : callF FF (k + 1) 55 [.lst ((rowW t d).map .str)] S = .ok (.tup [.int (d : Int), .lst (t.wd.map .str)]) S := by
  rw [call_eq F_55 rfl]
  by_cases h0 : d = 0
  · subst h0
    obtain ⟨w, ws, hw, hc⟩ : ∃ w ws, t.wd = w :: ws ∧ (w = sRaw ∨ w = sMade) := by
      cases t with
      | raw => exact ⟨_, _, rfl, .inl rfl⟩
      | made => exact ⟨_, _, rfl, .inr rfl⟩
    have hr : rowW t 0 = w :: ws := by unfold rowW dots; simp [hw]
    rw [hr, hw]
    have x0 : ∀ S, idxF (.lst (.str w :: ws.map .str)) (.int 0) S = .ok (.str w) S := fun S => idxF_l0
    have c1 : ∀ S, cmpF .ne (.str w) (.str []) S = .ok (.bl true) S := fun S => by rcases hc with rfl | rfl <;> rfl
    have l1 : ∀ S, biF .len [.str w] S = .ok (.int (w.length : Int)) S := fun S => by rcases hc with rfl | rfl <;> rfl
    have m1 : ∀ S, opF .mulS (.str [46]) (.int (w.length : Int)) S = .ok (.str (List.replicate w.length 46)) S := fun S => mulS_ok (by rcases hc with rfl | rfl <;> decide)
    have c2 : ∀ S, cmpF .eq (.str w) (.str (List.replicate w.length 46)) S = .ok (.bl false) S := fun S => by rcases hc with rfl | rfl <;> rfl
    have hb : below S.length (.tup [.int 0, .lst (.str w :: ws.map .str)]) = true := by
      have := belows_strs (b := S.length) (w :: ws)
      show (true && (belows S.length _ && true)) = true
      rw [show belows S.length (D.str w :: ws.map D.str) = true from this] <;> rfl
    simp only [List.map_cons]
    generalize ws.map D.str = WS at *
    simp [f55, x0, c1, l1, m1, c2]
    rw [finR_rt hb, List.take_length]
  · have hr : rowW t d = List.replicate d 46 :: t.wd := by unfold rowW dots; simp [h0]
    rw [hr]
    have hne : List.replicate d 46 ≠ [] := by simp [h0]
    have sg : ∀ c ∈ List.replicate d 46, c < 0x110000 := fun c hc => by rw [(List.mem_replicate.mp hc).2]; decide
    have x0 : ∀ (l : List D) S, idxF (.lst (.str (List.replicate d 46) :: l)) (.int 0) S = .ok (.str (List.replicate d 46)) S := fun l S => idxF_l0
    have c1 : ∀ S, cmpF .ne (.str (List.replicate d 46)) (.str []) S = .ok (.bl true) S := fun S => by
      rw [cmp_strN sg (by simp)]
      have : (List.replicate d 46 == []) = false := by simp [h0]
      rw [this]; rfl
    have l1 : ∀ S, biF .len [.str (List.replicate d 46)] S = .ok (.int (d : Int)) S := fun S => by
      show (if (List.replicate d 46).length ≤ LINE then R.ok (D.int (List.replicate d 46).length) S else .no) = _
      rw [List.length_replicate, if_pos (by unfold LINE; omega)]
    have m1 : ∀ S, opF .mulS (.str [46]) (.int (d : Int)) S = .ok (.str (List.replicate d 46)) S := fun S => mulS_ok (by omega)
    have c2 : ∀ S, cmpF .eq (.str (List.replicate d 46)) (.str (List.replicate d 46)) S = .ok (.bl true) S := fun S => by
      rw [cmp_str sg sg]; simp
    have hb : below S.length (.tup [.int (d : Int), .lst (t.wd.map .str)]) = true := by
      show (true && (belows S.length _ && true)) = true
      rw [belows_strs] <;> rfl
    simp only [List.map_cons]
    have sl : ∀ S, sliF (.lst (.str (List.replicate d 46) :: t.wd.map .str)) (some 1) none S = .ok (.lst (t.wd.map .str)) S := fun S => sli_tail
    generalize t.wd.map D.str = WS at *
    generalize List.replicate d 46 = DT at *
    simp [f55, x0, c1, l1, m1, c2, sl]
    rw [finR_rt hb, List.take_length]
theorem nums_in {cl : Nat → List D → M D} {ρ : Ev} {ns : List Nat} (hρ : ρ.length = 3) (H : ∀ n ∈ ns, ∀ S, cl 48 [.str (numL n), .int 7] S = .ok (.int (n : Int)) S) :
    collect (turnF cl (.name 2) [2] .none (.call 48 (.cons (.var 2) (.cons (.con (.int 7)) .nil))) ρ) (ns.map fun n => .str (numL n)) S = .ok (ns.map natD) S := by
  refine collect_maps fun n hn => ?_
  have hb : bindP (.name 2) (.str (numL n)) (wipeE ρ [2]) = some ((wipeE ρ [2]).set 2 (some (.str (numL n)))) := by simp [bindP, wipeE, hρ]
  have g2 : ((wipeE ρ [2]).set 2 (some (.str (numL n))))[2]? = some (some (.str (numL n))) := by simp [wipeE, List.getElem?_set, hρ]
  rw [turn_run hb]
  simp [g2, H n hn, natD]
theorem thing_in_ok {t : Th} (hk : t.ok) : callF FF (k + 3) 54 [.lst (t.wd.map .str)] S = .ok t.hd S := by
  have nb : ∀ (i : Int) (S : Store), 0 ≤ i → i ≤ 1000000 → callF FF (k + 2) 48 [.str (numL i.toNat), .int 7] S = .ok (.int i) S := fun i S h0 h1 => by
    have := number_ok (k := k + 1) (S := S) (n := i.toNat) (most := 7) (numL_len7 (by omega)) (by decide)
    rw [show ((i.toNat : Nat) : Int) = i by omega] at this
    exact this
  have b := Th.bounds hk
  rw [call_eq F_54 rfl]
  cases t with
  | raw h lo hi =>
    have b1 : 0 ≤ lo ∧ lo ≤ hi ∧ hi ≤ 1000000 := b
    have n1 := fun S => nb lo S (by omega) (by omega)
    have n2 := fun S => nb hi S (by omega) (by omega)
    have cc : ev (callF FF (k + 2)) c54_0 [some (.lst [.str sRaw, .str (landS h), .str (numL lo.toNat), .str (numL hi.toNat)]), none, none] S = .ok (.lst [.int lo, .int hi]) S := by
      have sl : ∀ S, sliF (.lst [.str sRaw, .str (landS h), .str (numL lo.toNat), .str (numL hi.toNat)]) (some 2) (some 5) S = .ok (.lst [.str (numL lo.toNat), .str (numL hi.toNat)]) S := fun S => rfl
      have co := nums_in (S := S) (cl := callF FF (k + 2)) (ρ := [some (.lst [.str sRaw, .str (landS h), .str (numL lo.toNat), .str (numL hi.toNat)]), none, none]) (ns := [lo.toNat, hi.toNat]) rfl (by
        intro n hn S
        simp at hn
        rcases hn with rfl | rfl
        · rw [n1, show ((lo.toNat : Nat) : Int) = lo by omega]
        · rw [n2, show ((hi.toNat : Nat) : Int) = hi by omega])
      simp only [List.map_cons, List.map_nil, natD, show ((lo.toNat : Nat) : Int) = lo by omega, show ((hi.toNat : Nat) : Int) = hi by omega] at co
      unfold c54_0
      simp [sl, co]
    have q1 : ∀ (a b c d : D) S, biF .len [.lst [a, b, c, d]] S = .ok (.int 4) S := fun a b c d S => rfl
    have q2 : ∀ S, cmpF .notin (.int 4) (.tup [.int 4, .int 7]) S = .ok (.bl false) S := fun S => rfl
    have q3 : ∀ S, cmpF .notinD (.tup [.str sRaw, .int 4]) (.tup [.tup [.str [114, 97, 119], .int 4], .tup [.str [109, 97, 100, 101], .int 7]]) S = .ok (.bl false) S := fun S => rfl
    have q4 : ∀ S, cmpF .notin (.str (landS h)) (.tup [.str [104, 101, 114, 101], .str [97, 119, 97, 121]]) S = .ok (.bl false) S := fun S => by cases h <;> rfl
    have q5 : ∀ S, cmpF .isin .non (.lst [.int lo, .int hi]) S = .ok (.bl false) S := fun S => rfl
    have i1 : ∀ (a b : D) (l : List D) S, idxF (.lst (a :: b :: l)) (.int 1) S = .ok b S := fun a b l S => idxF_l (n := 1) rfl
    have hb : below S.length (Th.raw h lo hi).hd = true := by cases h <;> rfl
    simp only [Th.wd, List.map_cons, List.map_nil]
    unfold Th.hd at hb ⊢
    simp [f54, q1, q2, q3, q4, cc, q5, i1, raw_r]
    rw [finR_rt hb, List.take_length]
  | made h lo hi s w o ps =>
    have b1 : 0 ≤ lo ∧ lo ≤ hi ∧ hi ≤ 1000000 := b
    obtain ⟨_, ⟨b4, b5⟩, _, _⟩ := (show (0 ≤ lo ∧ lo ≤ hi ∧ hi ≤ 1000000) ∧ (0 ≤ s ∧ s ≤ 100) ∧ (1 ≤ ps.length ∧ ps.length ≤ 4) ∧ Th.oks ps by simpa only [Th.ok] using hk)
    have n1 := fun S => nb lo S (by omega) (by omega)
    have n2 := fun S => nb hi S (by omega) (by omega)
    have n3 := fun S => nb s S (by omega) (by omega)
    have cc : ev (callF FF (k + 2)) c54_0 [some (.lst [.str sMade, .str (landS h), .str (numL lo.toNat), .str (numL hi.toNat), .str (numL s.toNat), .str (upS w), .str (dnS o)]), none, none] S = .ok (.lst [.int lo, .int hi, .int s]) S := by
      have sl : ∀ S, sliF (.lst [.str sMade, .str (landS h), .str (numL lo.toNat), .str (numL hi.toNat), .str (numL s.toNat), .str (upS w), .str (dnS o)]) (some 2) (some 5) S = .ok (.lst [.str (numL lo.toNat), .str (numL hi.toNat), .str (numL s.toNat)]) S := fun S => rfl
      have co := nums_in (S := S) (cl := callF FF (k + 2)) (ρ := [some (.lst [.str sMade, .str (landS h), .str (numL lo.toNat), .str (numL hi.toNat), .str (numL s.toNat), .str (upS w), .str (dnS o)]), none, none]) (ns := [lo.toNat, hi.toNat, s.toNat]) rfl (by
        intro n hn S
        simp at hn
        rcases hn with rfl | rfl | rfl
        · rw [n1, show ((lo.toNat : Nat) : Int) = lo by omega]
        · rw [n2, show ((hi.toNat : Nat) : Int) = hi by omega]
        · rw [n3, show ((s.toNat : Nat) : Int) = s by omega])
      simp only [List.map_cons, List.map_nil, natD, show ((lo.toNat : Nat) : Int) = lo by omega, show ((hi.toNat : Nat) : Int) = hi by omega, show ((s.toNat : Nat) : Int) = s by omega] at co
      unfold c54_0
      simp [sl, co]
    have q1 : ∀ (a b c d e f g : D) S, biF .len [.lst [a, b, c, d, e, f, g]] S = .ok (.int 7) S := fun a b c d e f g S => rfl
    have q2 : ∀ S, cmpF .notin (.int 7) (.tup [.int 4, .int 7]) S = .ok (.bl false) S := fun S => rfl
    have q3 : ∀ S, cmpF .notinD (.tup [.str sMade, .int 7]) (.tup [.tup [.str [114, 97, 119], .int 4], .tup [.str [109, 97, 100, 101], .int 7]]) S = .ok (.bl false) S := fun S => rfl
    have q4 : ∀ S, cmpF .notin (.str (landS h)) (.tup [.str [104, 101, 114, 101], .str [97, 119, 97, 121]]) S = .ok (.bl false) S := fun S => by cases h <;> rfl
    have q5 : ∀ S, cmpF .isin .non (.lst [.int lo, .int hi, .int s]) S = .ok (.bl false) S := fun S => rfl
    have q6 : ∀ S, cmpF .notin (.str (upS w)) (.tup [.str [119, 104, 111, 108, 101], .str [111, 119, 110]]) S = .ok (.bl false) S := fun S => by cases w <;> rfl
    have q7 : ∀ S, cmpF .notin (.str (dnS o)) (.tup [.str [111, 119, 110], .str [110, 111, 110, 101]]) S = .ok (.bl false) S := fun S => by cases o <;> rfl
    have i1 : ∀ (a b : D) (l : List D) S, idxF (.lst (a :: b :: l)) (.int 1) S = .ok b S := fun a b l S => idxF_l (n := 1) rfl
    have i2 : ∀ (a b c : D) (l : List D) S, idxF (.lst (a :: b :: c :: l)) (.int 2) S = .ok c S := fun a b c l S => idxF_l (n := 2) rfl
    have i5 : ∀ (a b c d e f : D) (l : List D) S, idxF (.lst (a :: b :: c :: d :: e :: f :: l)) (.int 5) S = .ok f S := fun a b c d e f l S => idxF_l (n := 5) rfl
    have i6 : ∀ (a b c d e f g : D) (l : List D) S, idxF (.lst (a :: b :: c :: d :: e :: f :: g :: l)) (.int 6) S = .ok g S := fun a b c d e f g l S => idxF_l (n := 6) rfl
    have hb : below S.length (Th.made h lo hi s w o ps).hd = true := by cases h <;> cases w <;> cases o <;> rfl
    simp only [Th.wd, List.map_cons, List.map_nil]
    unfold Th.hd at hb ⊢
    simp [f54, q1, q2, q3, q4, cc, q5, i1, i2, i5, i6, made_r, q6, q7]
    rw [finR_rt hb, List.take_length]
end
end Pf

set_option linter.all false
set_option Elab.async false
set_option maxRecDepth 100000
set_option maxHeartbeats 4000000
set_option autoImplicit false
/-! PfT5: the rows of a good, read -/
namespace Pf
open TL
mutual
def Th.its : Th → Nat → List (Nat × Th)
  | .raw h lo hi, d => [(d, .raw h lo hi)]
  | .made h lo hi s w o ps, d => (d, .made h lo hi s w o ps) :: Th.itss ps (d + 1)
def Th.itss : List Th → Nat → List (Nat × Th)
  | [], _ => []
  | t :: ts, d => t.its d ++ Th.itss ts d
end
theorem Th.its_cons (t : Th) (d : Nat) : t.its d = (d, t) :: Th.itss t.parts (d + 1) := by cases t <;> rfl
mutual
theorem Th.its_len : ∀ (t : Th) (d : Nat), (t.its d).length = t.size
  | .raw h lo hi, d => rfl
  | .made h lo hi s w o ps, d => by rw [Th.its, List.length_cons, Th.itss_len ps (d + 1), Th.size]
theorem Th.itss_len : ∀ (ts : List Th) (d : Nat), (Th.itss ts d).length = Th.sizes ts
  | [], _ => rfl
  | t :: ts, d => by rw [Th.itss, List.length_append, Th.its_len t d, Th.itss_len ts d, Th.sizes]
end
mutual
theorem Th.its_tr : ∀ (t : Th) (d : Nat), t.tr d = (t.its d).map fun p => rowT p.2 p.1
  | .raw h lo hi, d => rfl
  | .made h lo hi s w o ps, d => by rw [Th.tr, Th.its, List.map_cons, Th.itss_tr ps (d + 1)]
theorem Th.itss_tr : ∀ (ts : List Th) (d : Nat), Th.trs ts d = (Th.itss ts d).map fun p => rowT p.2 p.1
  | [], _ => rfl
  | t :: ts, d => by rw [Th.trs, Th.itss, List.map_append, Th.its_tr t d, Th.itss_tr ts d]
end
mutual
theorem Th.its_ok : ∀ {t : Th} {d : Nat}, t.ok → ∀ p ∈ t.its d, p.2.ok ∧ p.1 ≤ d + t.size
  | .raw h lo hi, d, hk, p, hp => by
    rw [Th.its] at hp
    simp at hp
    subst hp
    exact ⟨hk, by simp⟩
  | .made h lo hi s w o ps, d, hk, p, hp => by
    rw [Th.its] at hp
    rcases List.mem_cons.mp hp with rfl | hp
    · exact ⟨hk, by simp⟩
    · have k' := (show (0 ≤ lo ∧ lo ≤ hi ∧ hi ≤ 1000000) ∧ (0 ≤ s ∧ s ≤ 100) ∧ (1 ≤ ps.length ∧ ps.length ≤ 4) ∧ Th.oks ps by simpa only [Th.ok] using hk)
      obtain ⟨h1, h2⟩ := Th.itss_ok k'.2.2.2 p hp
      exact ⟨h1, by rw [Th.size]; omega⟩
theorem Th.itss_ok : ∀ {ts : List Th} {d : Nat}, Th.oks ts → ∀ p ∈ Th.itss ts d, p.2.ok ∧ p.1 ≤ d + Th.sizes ts
  | [], _, _, p, hp => by cases hp
  | t :: ts, d, hk, p, hp => by
    obtain ⟨k1, k2⟩ := (show t.ok ∧ Th.oks ts by simpa only [Th.oks] using hk)
    rw [Th.itss] at hp
    rw [Th.sizes]
    rcases List.mem_append.mp hp with hp | hp
    · obtain ⟨h1, h2⟩ := Th.its_ok k1 p hp
      exact ⟨h1, by omega⟩
    · obtain ⟨h1, h2⟩ := Th.itss_ok k2 p hp
      exact ⟨h1, by omega⟩
end
/-! each row may stand behind the one ahead -/
def OkNext (L : List (Nat × Th)) (d : Nat) : Prop := match L.getLast? with
  | none => d = 0
  | some q => 1 ≤ d ∧ d ≤ q.1 + (if q.2.isMade then 1 else 0)
inductive Ch : List (Nat × Th) → List (Nat × Th) → Prop
  | nil {L : List (Nat × Th)} : Ch L []
  | cons {L : List (Nat × Th)} {p : Nat × Th} {r : List (Nat × Th)} : OkNext L p.1 → Ch (L ++ [p]) r → Ch L (p :: r)
theorem Ch.app : ∀ {L a b : List (Nat × Th)}, Ch L a → Ch (L ++ a) b → Ch L (a ++ b)
  | L, [], b, _, h => by simpa using h
  | L, p :: a, b, .cons h1 h2, h => .cons h1 (Ch.app h2 (by simpa using h))
mutual
theorem Th.its_ch : ∀ (t : Th) (d : Nat) (L : List (Nat × Th)), OkNext L d → Ch L (t.its d) ∧ ∃ q, (L ++ t.its d).getLast? = some q ∧ d ≤ q.1
  | .raw h lo hi, d, L, ho => ⟨.cons ho .nil, (d, .raw h lo hi), by rw [Th.its]; simp, Nat.le_refl _⟩
  | .made h lo hi s w o ps, d, L, ho => by
    rw [Th.its]
    have hq : ∃ q, (L ++ [(d, Th.made h lo hi s w o ps)]).getLast? = some q ∧ d + 1 ≤ q.1 + (if q.2.isMade then 1 else 0) := ⟨(d, .made h lo hi s w o ps), by simp, by simp [Th.isMade]⟩
    obtain ⟨h1, q, h2, h3⟩ := Th.itss_ch ps (d + 1) _ (by omega) hq
    refine ⟨.cons ho h1, q, ?_, ?_⟩
    · rw [List.append_assoc] at h2; exact h2
    · have : (if q.2.isMade = true then 1 else 0) ≤ 1 := by split <;> omega
      omega
theorem Th.itss_ch : ∀ (ts : List Th) (d : Nat) (L : List (Nat × Th)), 1 ≤ d → (∃ q, L.getLast? = some q ∧ d ≤ q.1 + (if q.2.isMade then 1 else 0)) → Ch L (Th.itss ts d) ∧ ∃ q, (L ++ Th.itss ts d).getLast? = some q ∧ d ≤ q.1 + (if q.2.isMade then 1 else 0)
  | [], d, L, _, hq => ⟨.nil, by simpa [Th.itss] using hq⟩
  | t :: ts, d, L, h1, hq => by
    obtain ⟨q, g1, g2⟩ := hq
    have ho : OkNext L d := by
      unfold OkNext
      rw [g1]
      exact ⟨h1, g2⟩
    obtain ⟨c1, q', e1, e2⟩ := Th.its_ch t d L ho
    obtain ⟨c2, q2, f1, f2⟩ := Th.itss_ch ts d (L ++ t.its d) h1 ⟨q', e1, by omega⟩
    rw [Th.itss]
    exact ⟨c1.app c2, q2, by rw [← List.append_assoc]; exact f1, f2⟩
end
/-! no blanks, no row ends within words -/
theorem mem_joinL {s c : Nat} : ∀ {ws : List (List Nat)}, c ∈ joinL [s] ws → c = s ∨ ∃ w ∈ ws, c ∈ w
  | [], h => by cases h
  | [a], h => .inr ⟨a, List.mem_cons_self, h⟩
  | a :: b :: ws, h => by
    rw [joinL_cons a (by simp)] at h
    rcases List.mem_append.mp h with h | h
    · rcases List.mem_append.mp h with h | h
      · exact .inr ⟨a, List.mem_cons_self, h⟩
      · exact .inl (by simpa using h)
    · rcases mem_joinL h with h | ⟨w, h1, h2⟩
      · exact .inl h
      · exact .inr ⟨w, List.mem_cons_of_mem _ h1, h2⟩
theorem wd_signs {t : Th} : ∀ w ∈ t.wd, ∀ c ∈ w, 33 ≤ c ∧ c ≤ 126 := by
  have a0 : ∀ h, ∀ c ∈ landS h, 33 ≤ c ∧ c ≤ 126 := fun h => by cases h <;> decide
  have a1 : ∀ h, ∀ c ∈ upS h, 33 ≤ c ∧ c ≤ 126 := fun h => by cases h <;> decide
  have a2 : ∀ h, ∀ c ∈ dnS h, 33 ≤ c ∧ c ≤ 126 := fun h => by cases h <;> decide
  have a3 : ∀ c ∈ sRaw, 33 ≤ c ∧ c ≤ 126 := by decide
  have a4 : ∀ c ∈ sMade, 33 ≤ c ∧ c ≤ 126 := by decide
  have a5 : ∀ n, ∀ c ∈ numL n, 33 ≤ c ∧ c ≤ 126 := fun n c hc => by have := numL_dig c hc; omega
  intro w hw
  cases t with
  | raw h lo hi =>
    simp [Th.wd] at hw
    rcases hw with rfl | rfl | rfl | rfl
    · exact a3
    · exact a0 h
    · exact a5 _
    · exact a5 _
  | made h lo hi s w' o ps =>
    simp [Th.wd] at hw
    rcases hw with rfl | rfl | rfl | rfl | rfl | rfl | rfl
    · exact a4
    · exact a0 h
    · exact a5 _
    · exact a5 _
    · exact a5 _
    · exact a1 w'
    · exact a2 o
theorem rowW_signs {t : Th} {d : Nat} : ∀ w ∈ rowW t d, ∀ c ∈ w, 33 ≤ c ∧ c ≤ 126 := fun w hw c hc => by
  unfold rowW dots at hw
  rcases List.mem_append.mp hw with h | h
  · split at h
    · cases h
    · simp at h
      subst h
      rw [(List.mem_replicate.mp hc).2]
      omega
  · exact wd_signs w h c hc
theorem rowT_signs {t : Th} {d : Nat} : ∀ c ∈ rowT t d, 32 ≤ c ∧ c ≤ 126 := fun c hc => by
  rcases mem_joinL hc with h | ⟨w, h1, h2⟩
  · omega
  · have := rowW_signs w h1 c h2; omega
theorem rowW_ne {t : Th} {d : Nat} : rowW t d ≠ [] := by
  unfold rowW
  cases t <;> simp [Th.wd]
/-! the rows read, one behind the other -/
def itD (p : Nat × Th) : D := .tup [.int (p.1 : Int), p.2.hd]
theorem Th.hd_sh {t : Th} (hk : t.ok) : sh t.hd = true ∧ dep t.hd ≤ 2 := by
  have b := Th.bounds hk
  have a0 : ∀ h, sh (.str (landS h)) = true := fun h => by cases h <;> decide
  have a1 : ∀ h, sh (.str (upS h)) = true := fun h => by cases h <;> decide
  have a2 : ∀ h, sh (.str (dnS h)) = true := fun h => by cases h <;> decide
  cases t with
  | raw h lo hi =>
    have b1 : 0 ≤ lo ∧ lo ≤ hi ∧ hi ≤ 1000000 := b
    refine ⟨?_, by show max 0 (max 0 (max 0 (max 0 0))) + 1 ≤ 2; decide⟩
    show (sh (.str sRaw) && (sh (.str (landS h)) && (sh (.int lo) && (sh (.int hi) && true)))) = true
    rw [a0, sh_int (by omega) (by omega), sh_int (by omega) (by omega)] <;> rfl
  | made h lo hi s w o ps =>
    have b1 : 0 ≤ lo ∧ lo ≤ hi ∧ hi ≤ 1000000 := b
    obtain ⟨_, ⟨b4, b5⟩, _, _⟩ := (show (0 ≤ lo ∧ lo ≤ hi ∧ hi ≤ 1000000) ∧ (0 ≤ s ∧ s ≤ 100) ∧ (1 ≤ ps.length ∧ ps.length ≤ 4) ∧ Th.oks ps by simpa only [Th.ok] using hk)
    refine ⟨?_, by show max 0 (max 0 (max 0 (max 0 (max (max 0 (max 0 (max 0 0)) + 1) 0)))) + 1 ≤ 2; decide⟩
    show (sh (.str sMade) && (sh (.str (landS h)) && (sh (.int lo) && (sh (.int hi) && ((sh (.int s) && (sh (.str (upS w)) && (sh (.str (dnS o)) && true))) && true))))) = true
    rw [a0, a1, a2, sh_int (by omega) (by omega), sh_int (by omega) (by omega), sh_int (by omega) (by omega)] <;> rfl
theorem itD_sh {p : Nat × Th} (hk : p.2.ok) (hd : p.1 ≤ 1000000) : sh (itD p) = true ∧ dep (itD p) ≤ 3 := by
  obtain ⟨h1, h2⟩ := Th.hd_sh hk
  refine ⟨?_, ?_⟩
  · show (sh (.int (p.1 : Int)) && (sh p.2.hd && true)) = true
    rw [h1, sh_int (by omega) (by omega)] <;> rfl
  · show max 0 (max (dep p.2.hd) 0) + 1 ≤ 3
    omega
theorem its_sh : ∀ {L : List (Nat × Th)}, (∀ p ∈ L, p.2.ok ∧ p.1 ≤ 1000000) → shs (L.map itD) = true ∧ deps (L.map itD) ≤ 3
  | [], _ => ⟨rfl, Nat.zero_le _⟩
  | p :: L, h => by
    obtain ⟨h1, h2⟩ := its_sh (L := L) fun q hq => h q (List.mem_cons_of_mem _ hq)
    obtain ⟨g1, g2⟩ := itD_sh (h p List.mem_cons_self).1 (h p List.mem_cons_self).2
    refine ⟨?_, ?_⟩
    · show (sh (itD p) && shs (L.map itD)) = true
      rw [g1, h1] <;> rfl
    · show max (dep (itD p)) (deps (L.map itD)) ≤ 3
      omega
section
variable {S : Store} {k : Nat}
theorem ne_items {L : List (Nat × Th)} (h : ∀ p ∈ L, p.2.ok ∧ p.1 ≤ 1000000) : cmpF .ne (.ref S.length) (.lst []) (S ++ [.lst (L.map itD)]) = .ok (.bl (!L.isEmpty)) (S ++ [.lst (L.map itD)]) := by
  obtain ⟨h1, h2⟩ := its_sh h
  have e : der (S ++ [.lst (L.map itD)]) (.ref S.length) = .lst (L.map itD) := by
    show (match (S ++ [Ob.lst (L.map itD)])[S.length]? with | some (.lst l) => D.lst l | _ => .ref S.length) = _
    rw [one0]
  have ok : okD (.lst (L.map itD)) = true := okD_of h1 (by show deps _ + 1 ≤ 60; omega)
  show (if okD (der (S ++ [.lst (L.map itD)]) (.ref S.length)) && okD (.lst []) then R.ok (D.bl (!eqD (der (S ++ [.lst (L.map itD)]) (.ref S.length)) (.lst []))) _ else .no) = _
  rw [e, ok]
  cases L <;> rfl
theorem atI_last {α : Type} {l : List α} {x : α} : L2.atI (l ++ [x]) (-1) = some x := by
  unfold L2.atI L2.ixN
  simp
  rw [if_pos (by omega), show (-1 + ((l.length : Int) + 1)).toNat = l.length by omega]
  simp
theorem idx_last {L : List (Nat × Th)} {q : Nat × Th} : idxF (.ref S.length) (.int (-1)) (S ++ [.lst ((L ++ [q]).map itD)]) = .ok (itD q) (S ++ [.lst ((L ++ [q]).map itD)]) := by
  show (match (S ++ [Ob.lst ((L ++ [q]).map itD)])[S.length]? with
    | some (.lst l) => (match L2.atI l (-1) with | some d => R.ok d _ | none => .no)
    | some (.dic kvs) => if keyOk (.int (-1)) then (match lookD (.int (-1)) kvs with | some d => R.ok d _ | none => .no) else .no
    | _ => .no) = _
  rw [one0]
  simp only [List.map_append, List.map_cons, List.map_nil]
  rw [atI_last]
theorem eq_unit {t : Th} (hk : t.ok) : cmpF .eq t.hd (.tup []) S = .ok (.bl false) S := by
  obtain ⟨h1, h2⟩ := Th.hd_sh hk
  rw [cmp_eq_of h1 rfl (by omega) (by decide)]
  cases t <;> rfl
theorem items_loop {v0 : Option D} : ∀ (rs : List (Nat × Th)) (L : List (Nat × Th)) (i : Nat) (w2 w3 w4 w5 w6 w7 : Option D), Ch L rs → (∀ p ∈ L, p.2.ok ∧ p.1 ≤ 100) → (∀ p ∈ rs, p.2.ok ∧ p.1 ≤ 100) → L.length + rs.length ≤ 1000 →
    ∃ u2 u3 u4 u5 u6 u7, forF (bodyF (callF FF (k + 3)) (.tup [.name 2, .name 3]) b56_0) (enumFrom i (rs.map fun p => .str (rowT p.2 p.1))) [v0, some (.ref S.length), w2, w3, w4, w5, w6, w7] (S ++ [.lst (L.map itD)]) =
      .ok (.nx [v0, some (.ref S.length), u2, u3, u4, u5, u6, u7]) (S ++ [.lst ((L ++ rs).map itD)])
  | [], L, i, w2, w3, w4, w5, w6, w7, _, _, _, _ => ⟨w2, w3, w4, w5, w6, w7, by simp [enumFrom]⟩
  | (d, t) :: rs, L, i, w2, w3, w4, w5, w6, w7, .cons ho hc, hL, hrs, hl => by
    obtain ⟨hk, hd⟩ := hrs (d, t) List.mem_cons_self
    have hk : t.ok := hk
    have hd : d ≤ 100 := hd
    rw [List.length_cons] at hl
    have hL2 : ∀ p ∈ L, p.2.ok ∧ p.1 ≤ 1000000 := fun p hp => ⟨(hL p hp).1, by have := (hL p hp).2; omega⟩
    have rl := rowT_len (d := d) hk
    have e1 : ∀ S, mthF .split (.str (rowT t d)) [.str [32]] S = .ok (.lst ((rowW t d).map .str)) S := fun S => split_ok (by decide) rowW_ne (fun p hp hc => by have := rowW_signs p hp 32 hc; omega) (by unfold rowT at rl; unfold LINE; omega)
    have rc : ∀ S, recvOk .split (.str (rowT t d)) S = true := fun S => rfl
    have e2 := fun S => depth_in_ok (k := k + 2) (S := S) (t := t) hd
    have e3 := fun S => thing_in_ok (k := k) (S := S) hk
    have n1 := ne_items (S := S) hL2
    have u1 := fun S => eq_unit (S := S) hk
    have ap := mth_append (S := S ++ [.lst (L.map itD)]) (x := itD (d, t)) one0 (by simp; unfold LINE; omega) (sh_below (itD_sh hk (by show d ≤ _; omega)).1)
    rw [one0s] at ap
    have em : L.map itD ++ [itD (d, t)] = (L ++ [(d, t)]).map itD := by simp
    rw [em] at ap
    have rc2 : recvOk .append (.ref S.length) (S ++ [.lst (L.map itD)]) = true := recv_app (m := .append) one0
    have it : D.tup [.int (d : Int), t.hd] = itD (d, t) := rfl
    have key : ∀ most : Int, ((d : Int) ≤ most) → ∃ u2 u3 u4 u5 u6 u7, forF (bodyF (callF FF (k + 3)) (.tup [.name 2, .name 3]) b56_0) (enumFrom (i + 1) (rs.map fun p => .str (rowT p.2 p.1))) [v0, some (.ref S.length), some (.int (i : Int)), some (.str (rowT t d)), some (.int (d : Int)), some (.lst (t.wd.map .str)), some t.hd, some (.int most)] (S ++ [.lst ((L ++ [(d, t)]).map itD)]) =
        .ok (.nx [v0, some (.ref S.length), u2, u3, u4, u5, u6, u7]) (S ++ [.lst ((L ++ (d, t) :: rs).map itD)]) := fun most _ => by
      obtain ⟨u2, u3, u4, u5, u6, u7, e⟩ := items_loop (v0 := v0) rs (L ++ [(d, t)]) (i + 1) (some (.int (i : Int))) (some (.str (rowT t d))) (some (.int (d : Int))) (some (.lst (t.wd.map .str))) (some t.hd) (some (.int most)) hc (fun p hp => by
        rcases List.mem_append.mp hp with hp | hp
        · exact hL p hp
        · simp at hp; subst hp; exact ⟨hk, hd⟩) (fun p hp => hrs p (List.mem_cons_of_mem _ hp)) (by simp; omega)
      rw [List.append_assoc] at e
      exact ⟨u2, u3, u4, u5, u6, u7, e⟩
    simp only [Nat.add_assoc, Nat.reduceAdd] at e2 e3
    rcases (show L = [] ∨ ∃ L' q, L = L' ++ [q] by rcases List.eq_nil_or_concat L with h | ⟨a, b, h⟩; exact .inl h; exact .inr ⟨a, b, by rw [h, List.concat_eq_append]⟩) with rfl | ⟨L', q, rfl⟩
    · have d0 : d = 0 := ho
      subst d0
      obtain ⟨u2, u3, u4, u5, u6, u7, e⟩ := key 0 (by simp)
      refine ⟨u2, u3, u4, u5, u6, u7, ?_⟩
      rw [List.map_cons, enumFrom, forF_cons, bodyF_pair (by simp) (by simp)]
      clear key
      generalize rowT t 0 = RT at *
      generalize (rowW t 0).map D.str = RW at *
      generalize t.wd.map D.str = WD at *
      have it0 : D.tup [.int 0, t.hd] = itD (0, t) := rfl
      have e2' : ∀ S, callF FF (k + 3) 55 [.lst RW] S = .ok (.tup [.int 0, .lst WD]) S := e2
      generalize hX : ([] ++ [(0, t)] : List (Nat × Th)).map itD = XX at *
      simp only [List.map_nil] at n1 ap rc2 ⊢
      simp [b56_0, rc, e1, e2', e3, n1, u1, rc2, it0, ap]
      unfold b56_0 at e
      exact e
    · have ho2 : 1 ≤ d ∧ d ≤ q.1 + (if q.2.isMade then 1 else 0) := by
        unfold OkNext at ho
        simpa using ho
      have x1 := idx_last (S := S) (L := L') (q := q)
      have hq := hL2 q (by simp)
      have i0 : ∀ S, idxF (itD q) (.int 0) S = .ok (.int (q.1 : Int)) S := fun S => idxF_t0
      have i1 : ∀ S, idxF (itD q) (.int 1) S = .ok q.2.hd S := fun S => idxF_t1
      have i2 : ∀ S, idxF q.2.hd (.int 0) S = .ok (.str (if q.2.isMade then sMade else sRaw)) S := fun S => by cases q.2 <;> exact idxF_t0
      have cq : ∀ S, cmpF .eq (.str (if q.2.isMade then sMade else sRaw)) (.str [109, 97, 100, 101]) S = .ok (.bl q.2.isMade) S := fun S => by cases q.2.isMade <;> rfl
      obtain ⟨u2, u3, u4, u5, u6, u7, e⟩ := key ((q.1 : Int) + (if q.2.isMade then 1 else 0)) (by have := ho2.2; split at this <;> simp_all <;> omega)
      refine ⟨u2, u3, u4, u5, u6, u7, ?_⟩
      rw [List.map_cons, enumFrom, forF_cons, bodyF_pair (by simp) (by simp)]
      clear key
      have hne : (!(L' ++ [q]).isEmpty) = true := by simp
      rw [hne] at n1
      have hd0 : ((d : Int) == 0) = false := by simp; omega
      have hgt : ¬ ((q.1 : Int) + (if q.2.isMade = true then 1 else 0) < (d : Int)) := by have := ho2.2; split at this <;> simp_all <;> omega
      generalize rowT t d = RT at *
      generalize (rowW t d).map D.str = RW at *
      generalize t.wd.map D.str = WD at *
      generalize hX : ((L' ++ [q]) ++ [(d, t)]).map itD = XX at *
      generalize hY : (L' ++ [q]).map itD = YY at *
      generalize hZ : (L' ++ [q] ++ (d, t) :: rs).map itD = ZZ at *
      simp [b56_0, rc, e1, e2, e3, n1, x1, i0, i1, i2, cq, u1, hgt, hd0, rc2, it, ap]
      unfold b56_0 at e
      exact e
end
end Pf

set_option linter.all false
set_option Elab.async false
set_option maxRecDepth 100000
set_option maxHeartbeats 4000000
set_option autoImplicit false
/-! PfT6: read_good -/
namespace Pf
open TL
section
variable {S : Store} {k : Nat}
theorem items_in_ok {t : Th} (hk : t.ok) (hs : t.size ≤ 10) : callF FF (k + 4) 56 [.str t.text] S = .ok (.lst ((t.its 0).map itD)) S := by
  have hl := tr_line (d := 0) hk hs (by decide)
  have jl := joinL_len (c := 10) (t.tr 0)
  have e1 : ∀ S, mthF .split (.str t.text) [.str [10]] S = .ok (.lst ((t.tr 0).map .str)) S := fun S => split_ok (by decide) (Th.tr_ne t 0) (fun p hp hc => by
    rw [Th.its_tr] at hp
    obtain ⟨q, _, rfl⟩ := List.mem_map.mp hp
    have := rowT_signs 10 hc
    omega) (by unfold LINE; omega)
  have rc : ∀ S, recvOk .split (.str t.text) S = true := fun S => rfl
  have hok : ∀ p ∈ t.its 0, p.2.ok ∧ p.1 ≤ 100 := fun p hp => by
    obtain ⟨h1, h2⟩ := Th.its_ok hk p hp
    exact ⟨h1, by omega⟩
  have hlen := Th.its_len t 0
  obtain ⟨u2, u3, u4, u5, u6, u7, e⟩ := items_loop (k := k) (S := S) (v0 := some (.str t.text)) (t.its 0) [] 0 none none none none none none (Th.its_ch t 0 [] rfl).1 (by simp) hok (by simp; omega)
  have em : (t.tr 0).map D.str = (t.its 0).map fun p => .str (rowT p.2 p.1) := by rw [Th.its_tr, List.map_map]; rfl
  rw [← em] at e
  simp only [List.map_nil, List.nil_append] at e
  have hb : belows S.length ((t.its 0).map itD) = true := shs_below (its_sh fun p hp => ⟨(hok p hp).1, by have := (hok p hp).2; omega⟩).1
  have ff := finR_ref (S := S) hb
  rw [call_eq F_56 rfl]
  generalize (t.tr 0).map D.str = TR at *
  generalize (t.its 0).map itD = IT at *
  simp [f56, rc, e1]
  rw [e]
  simp
  exact ff
theorem Th.d_made {h : Bool} {lo hi s : Int} {w o : Bool} {ps : List Th} : (Th.made h lo hi s w o ps).d = .tup [.str sMade, .str (landS h), .int lo, .int hi, .tup [.int s, .str (upS w), .str (dnS o)], .tup (ps.map Th.d)] := by
  rw [Th.d, landD_S, termD, upD_S, dnD_S, Th.ds_map]
theorem tuple_ref {n : Nat} {l : List D} {S : Store} (h : S[n]? = some (.lst l)) : biF .tuple [.ref n] S = .ok (.tup l) S := by
  show (match (match S[n]? with | some (Ob.lst l) => some l | _ => none) with | some l => R.ok (D.tup l) S | none => .no) = _
  rw [h]
theorem from_loop {cl : Nat → List D → M D} {d M : Nat} {items : List (Nat × Th)} {post : List (Nat × Th)} {v1 v3 : Option D} (hpost : ∀ p, post.head? = some p → p.1 ≤ d) (hlen : items.length ≤ 1000)
    (H : ∀ (p : Th) (pre po : List (Nat × Th)) (S : Store), items = pre ++ p.its (d + 1) ++ po → (∀ q, po.head? = some q → q.1 ≤ d + 1) → p.size ≤ M → p.ok → cl 53 [.lst (items.map itD), .int (pre.length : Int)] S = .ok (.tup [p.d, .int ((pre.length + p.size : Nat) : Int)]) S) :
    ∀ (ps : List Th) (dn : List Th) (pre : List (Nat × Th)) (n : Nat) (w : Option D), Th.oks ps → items = pre ++ Th.itss ps (d + 1) ++ post → ps.length < n → dn.length + ps.length ≤ 1000 → Th.sizes ps ≤ M →
    ∃ w', whlE cl (.and (.cmp .lt (.var 5) (.bi .len (.cons (.var 0) .nil))) (.cmp .gt (.idx (.idx (.var 0) (.var 5)) (.con (.int 0))) (.var 2))) b53_0 n [some (.lst (items.map itD)), v1, some (.int (d : Int)), v3, some (.ref S.length), some (.int (pre.length : Int)), w] (S ++ [.lst (dn.map Th.d)]) =
      .ok (.nx [some (.lst (items.map itD)), v1, some (.int (d : Int)), v3, some (.ref S.length), some (.int ((pre.length + Th.sizes ps : Nat) : Int)), w']) (S ++ [.lst ((dn ++ ps).map Th.d)])
  | [], dn, pre, n + 1, w, _, hi, _, _, _ => by
    refine ⟨w, ?_⟩
    have ln : ∀ S, biF .len [.lst (items.map itD)] S = .ok (.int (items.length : Int)) S := fun S => by rw [biF_lenL, List.length_map]
    rw [whlE_succ]
    have hi2 : items = pre ++ post := by rw [hi]; simp [Th.itss]
    by_cases hp : post = []
    · have : items.length = pre.length := by rw [hi2, hp]; simp
      simp [ln, this, Th.sizes]
    · obtain ⟨q, post', rfl⟩ := List.exists_cons_of_ne_nil hp
      have hq := hpost q rfl
      have hlt : (pre.length : Int) < (items.length : Int) := by rw [hi2]; simp; omega
      have ix : ∀ S, idxF (.lst (items.map itD)) (.int (pre.length : Int)) S = .ok (itD q) S := fun S => idxF_l (by rw [List.getElem?_map, hi2, List.getElem?_append_right (Nat.le_refl _)]; simp)
      have i0 : ∀ S, idxF (itD q) (.int 0) S = .ok (.int (q.1 : Int)) S := fun S => idxF_t0
      have hng : ¬ (d < q.1) := by omega
      generalize items.map itD = IT at *
      simp [ln, hlt, ix, i0, hng, Th.sizes]
  | p :: ps, dn, pre, n + 1, w, hk, hi, hn, hd, hM => by
    rw [Th.sizes] at hM
    obtain ⟨k1, k2⟩ := (show p.ok ∧ Th.oks ps by simpa only [Th.oks] using hk)
    have hi2 : items = pre ++ p.its (d + 1) ++ (Th.itss ps (d + 1) ++ post) := by rw [hi, Th.itss]; simp
    have c1 := fun S => H p pre (Th.itss ps (d + 1) ++ post) S hi2 (fun q hq => by
      cases ps with
      | nil => have := hpost q (by simpa [Th.itss] using hq); omega
      | cons p2 ps => rw [Th.itss, Th.its_cons] at hq; simp at hq; subst hq; exact Nat.le_refl _) (by omega) k1
    have ln : ∀ S, biF .len [.lst (items.map itD)] S = .ok (.int (items.length : Int)) S := fun S => by rw [biF_lenL, List.length_map]
    have hsz : 1 ≤ p.size := by cases p <;> simp [Th.size]
    have hlt : (pre.length : Int) < (items.length : Int) := by
      rw [hi2]; simp [Th.its_len]; omega
    have ix : ∀ S, idxF (.lst (items.map itD)) (.int (pre.length : Int)) S = .ok (itD (d + 1, p)) S := fun S => idxF_l (by
      rw [List.getElem?_map, hi2, List.append_assoc, List.getElem?_append_right (Nat.le_refl _), Th.its_cons]; simp)
    have i0 : ∀ S, idxF (itD (d + 1, p)) (.int 0) S = .ok (.int ((d + 1 : Nat) : Int)) S := fun S => idxF_t0
    have ap := mth_append (S := S ++ [.lst (dn.map Th.d)]) (x := p.d) one0 (by simp at hd ⊢; unfold LINE; omega) (sh_below (Th.sh_d k1))
    rw [one0s, show dn.map Th.d ++ [p.d] = (dn ++ [p]).map Th.d by simp] at ap
    have rc := recv_app (m := .append) (S := S ++ [.lst (dn.map Th.d)]) one0
    obtain ⟨w', e⟩ := from_loop (v1 := v1) (v3 := v3) hpost hlen H ps (dn ++ [p]) (pre ++ p.its (d + 1)) n (some p.d) k2 (by rw [hi2]; simp) (by simp at hn; omega) (by simp at hd ⊢; omega) (by omega)
    refine ⟨w', ?_⟩
    rw [whlE_succ]
    have e1 : (pre ++ p.its (d + 1)).length = pre.length + p.size := by rw [List.length_append, Th.its_len]
    have e2 : pre.length + p.size + Th.sizes ps = pre.length + Th.sizes (p :: ps) := by rw [Th.sizes]; omega
    have e3 : dn ++ [p] ++ ps = dn ++ p :: ps := by simp
    rw [e1, e2, e3] at e
    have hgt : (d : Int) < ((d + 1 : Nat) : Int) := by omega
    generalize hIT : items.map itD = IT at *
    generalize hDN : dn.map Th.d = DN at *
    generalize hDM : (dn ++ [p]).map Th.d = DM at *
    generalize hDR : (dn ++ p :: ps).map Th.d = DR at *
    simp only [ev_and, ev_cmp, ev_bi, evs_cons, evs_nil, ev_var, ev_idx, ev_con, List.getElem?_cons_zero, List.getElem?_cons_succ, varR_some, rb_ok, ln, cmpF_ltI, hlt, decide_true, andR_bl, if_true, ix, i0, cmpF_gtI, hgt, truR_bl]
    unfold b53_0 at e ⊢
    simp [c1, rc, ap] at e ⊢
    exact e
  | _, _, _, 0, _, _, _, hn, _, _ => by omega
theorem from_ok : ∀ (N : Nat) (t : Th) (k d : Nat) (pre post items : List (Nat × Th)) (S : Store), t.size ≤ N → t.ok → items = pre ++ t.its d ++ post → items.length ≤ 1000 → (∀ p, post.head? = some p → p.1 ≤ d) →
    callF FF (k + N) 53 [.lst (items.map itD), .int (pre.length : Int)] S = .ok (.tup [t.d, .int ((pre.length + t.size : Nat) : Int)]) S := by
  intro N
  induction N with
  | zero => intro t k d pre post items S h; cases t <;> simp [Th.size] at h
  | succ N ih =>
    intro t k d pre post items S h hk hit hl hp
    have ix : ∀ S, idxF (.lst (items.map itD)) (.int (pre.length : Int)) S = .ok (itD (d, t)) S := fun S => idxF_l (by
      rw [List.getElem?_map, hit, List.append_assoc, List.getElem?_append_right (Nat.le_refl _), Th.its_cons]; simp)
    rw [show k + (N + 1) = k + N + 1 by omega, call_eq F_53 rfl]
    have hsh := Th.sh_d hk
    cases t with
    | raw hh lo hi =>
      have itd : itD (d, .raw hh lo hi) = .tup [.int (d : Int), .tup [.str sRaw, .str (landS hh), .int lo, .int hi]] := rfl
      have td : (Th.raw hh lo hi).d = .tup [.str sRaw, .str (landS hh), .int lo, .int hi] := by rw [Th.d, landD_S]
      rw [itd] at ix
      rw [td] at hsh ⊢
      have hb : below S.length (.tup [.tup [.str sRaw, .str (landS hh), .int lo, .int hi], .int ((pre.length : Int) + 1)]) = true := by
        show (below S.length (D.tup [.str sRaw, .str (landS hh), .int lo, .int hi]) && (true && true)) = true
        rw [sh_below hsh] <;> rfl
      have e1 : ((pre.length + (Th.raw hh lo hi).size : Nat) : Int) = (pre.length : Int) + 1 := by simp [Th.size]
      rw [e1]
      generalize items.map itD = IT at *
      simp [f53, ix, raw_r]
      rw [finR_rt hb, List.take_length]
    | made hh lo hi s w o ps =>
      have k' := (show (0 ≤ lo ∧ lo ≤ hi ∧ hi ≤ 1000000) ∧ (0 ≤ s ∧ s ≤ 100) ∧ (1 ≤ ps.length ∧ ps.length ≤ 4) ∧ Th.oks ps by simpa only [Th.ok] using hk)
      have hsz : (Th.made hh lo hi s w o ps).size = Th.sizes ps + 1 := by rw [Th.size]
      rw [hsz] at h
      have itd : itD (d, .made hh lo hi s w o ps) = .tup [.int (d : Int), .tup [.str sMade, .str (landS hh), .int lo, .int hi, .tup [.int s, .str (upS w), .str (dnS o)]]] := rfl
      have hi2 : items = (pre ++ [(d, Th.made hh lo hi s w o ps)]) ++ Th.itss ps (d + 1) ++ post := by rw [hit, Th.its]; simp
      have H : ∀ (p : Th) (pre po : List (Nat × Th)) (S : Store), items = pre ++ p.its (d + 1) ++ po → (∀ q, po.head? = some q → q.1 ≤ d + 1) → p.size ≤ N → p.ok → callF FF (k + N) 53 [.lst (items.map itD), .int (pre.length : Int)] S = .ok (.tup [p.d, .int ((pre.length + p.size : Nat) : Int)]) S :=
        fun p pre po S e1 e2 e3 e4 => ih p k (d + 1) pre po items S e3 e4 e1 hl e2
      have hwf : ps.length < WF := by
        have := lt_WF (n := 1000) (by decide)
        omega
      obtain ⟨w', e⟩ := from_loop (S := S) (v1 := some (.int (pre.length : Int))) (v3 := some (.tup [.str sMade, .str (landS hh), .int lo, .int hi, .tup [.int s, .str (upS w), .str (dnS o)]])) hp hl H ps [] _ WF none k'.2.2.2 hi2 hwf (by simp; omega) (by omega)
      have tr := tuple_ref (S := S ++ [.lst (ps.map Th.d)]) one0
      have e1 : (pre ++ [(d, Th.made hh lo hi s w o ps)]).length = pre.length + 1 := by simp
      rw [e1] at e
      have e2 : ((pre.length + 1 + Th.sizes ps : Nat) : Int) = ((pre.length + (Th.made hh lo hi s w o ps).size : Nat) : Int) := by rw [hsz]; omega
      rw [e2] at e
      simp only [List.nil_append, List.map_nil] at e
      rw [show ((pre.length + 1 : Nat) : Int) = (pre.length : Int) + 1 by omega] at e
      rw [itd] at ix
      rw [Th.d_made] at hsh ⊢
      have hb : ∀ z : Int, below S.length (.tup [.tup [.str sMade, .str (landS hh), .int lo, .int hi, .tup [.int s, .str (upS w), .str (dnS o)], .tup (ps.map Th.d)], .int z]) = true := fun z => by
        show (below S.length _ && (true && true)) = true
        rw [sh_below hsh] <;> rfl
      generalize ((pre.length + (Th.made hh lo hi s w o ps).size : Nat) : Int) = PZ at *
      generalize items.map itD = IT at *
      generalize ps.map Th.d = DS at *
      simp [f53, ix, made_r]
      rw [e]
      simp [tr]
      rw [finR_rt (hb _), List.take_left]
theorem read_good_ok {t : Th} (h : Good t) : callF FF (k + 14) 57 [.str t.text] S = .ok t.d S := by
  have e1 := items_in_ok (k := k + 9) (S := S) h.ok h.sz
  have hlen := Th.its_len t 0
  have e2 := from_ok 10 t (k + 3) 0 [] [] (t.its 0) S h.sz h.ok (by simp) (by have := h.sz; omega) (by simp)
  have e3 := need_good_ok (k := k) (S := S) h
  have is : isiF .str (.str t.text) S = .ok (.bl true) S := rfl
  rw [call_eq F_57 rfl]
  simp only [Nat.add_assoc, Nat.reduceAdd, List.length_nil, Nat.zero_add] at e1 e2
  generalize (t.its 0).map itD = IT at *
  have e2' : callF FF (k + 13) 53 [.lst IT, .int 0] S = .ok (.tup [t.d, .int (t.size : Int)]) S := e2
  simp [f57, is, e1, e2', e3]
  rw [finR_rt (sh_below (Th.sh_d h.ok)), List.take_length]
end
end Pf

set_option linter.all false
set_option Elab.async false
set_option maxRecDepth 100000
set_option maxHeartbeats 4000000
set_option autoImplicit false
/-! PfD3: the law k04 -/
namespace Pf
def body47b : St := (.seq (.asg (.name 5) (.call 41 (.cons (.var 1) (.cons (.var 4) .nil))))
    (.seq (.asg (.name 10) (.bi .repr (.cons (.lst false (.cons (.var 4) (.cons (.var 5) .nil))) .nil)))
    (.seq (.ifs (.or (.not (.call 38 (.cons (.var 4) (.cons (.var 5) .nil)))) (.cmp .ne (.bi .repr (.cons (.lst false (.cons (.var 4) (.cons (.var 5) .nil))) .nil)) (.var 10)))
    (.seq (.ret (.con (.bl false)))
    .skip)
    .skip)
    .skip)))
def body47a : St := (.seq (.asg (.name 4) (.call 45 (.cons (.var 1) (.cons (.con (.int 3)) (.cons (.con (.int 4)) .nil)))))
    (.seq (.for (.name 9) (.rng1 (.con (.int 4)))
    (.seq (.asg (.name 5) (.call 41 (.cons (.var 1) (.cons (.var 4) .nil))))
    (.seq (.asg (.name 10) (.bi .repr (.cons (.lst false (.cons (.var 4) (.cons (.var 5) .nil))) .nil)))
    (.seq (.ifs (.or (.not (.call 38 (.cons (.var 4) (.cons (.var 5) .nil)))) (.cmp .ne (.bi .repr (.cons (.lst false (.cons (.var 4) (.cons (.var 5) .nil))) .nil)) (.var 10)))
    (.seq (.ret (.con (.bl false)))
    .skip)
    .skip)
    .skip))))
    .skip))
def tail47 : St := (.seq (.asg (.name 3) (.tup (.cons (.con (.str [109, 97, 100, 101])) (.cons (.con (.str [104, 101, 114, 101])) (.cons (.con (.int 2)) (.cons (.con (.int 2)) (.cons (.tup (.cons (.con (.int 50)) (.cons (.con (.str [119, 104, 111, 108, 101])) (.cons (.con (.str [110, 111, 110, 101])) .nil)))) (.cons (.tup (.cons (.tup (.cons (.con (.str [114, 97, 119])) (.cons (.con (.str [97, 119, 97, 121])) (.cons (.con (.int 1)) (.cons (.con (.int 5)) .nil))))) (.cons (.tup (.cons (.con (.str [114, 97, 119])) (.cons (.con (.str [104, 101, 114, 101])) (.cons (.con (.int 1)) (.cons (.con (.int 1)) .nil))))) .nil))) .nil))))))))
    (.seq (.asg (.name 4) (.tup (.cons (.con (.str [109, 97, 100, 101])) (.cons (.con (.str [97, 119, 97, 121])) (.cons (.con (.int 1)) (.cons (.con (.int 1)) (.cons (.tup (.cons (.con (.int 60)) (.cons (.con (.str [111, 119, 110])) (.cons (.con (.str [111, 119, 110])) .nil)))) (.cons (.tup (.cons (.var 3) (.cons (.tup (.cons (.con (.str [114, 97, 119])) (.cons (.con (.str [104, 101, 114, 101])) (.cons (.con (.int 0)) (.cons (.con (.int 3)) .nil))))) .nil))) .nil))))))))
    (.seq (.asg (.name 5) (.tup (.cons (.tup (.cons (.con (.int 1)) (.cons (.con (.int 1)) .nil))) (.cons (.tup (.cons (.con (.int 2)) (.cons (.con (.int 1)) .nil))) (.cons (.tup (.cons (.con (.int 3)) (.cons (.con (.int 1)) .nil))) (.cons (.tup (.cons (.con (.int 1)) (.cons (.con (.int 1)) .nil))) (.cons (.tup (.cons (.con (.int 0)) (.cons (.con (.int 1)) .nil))) .nil)))))))
    (.seq (.asg (.name 6) (.lst false (.cons (.call 30 (.cons (.var 4) (.cons (.var 5) .nil))) (.cons (.call 29 (.cons (.var 4) (.cons (.var 5) .nil))) (.cons (.call 28 (.cons (.var 4) (.cons (.var 5) .nil))) .nil)))))
    (.seq (.asg (.name 7) (.lst false (.cons (.tup (.cons (.tup (.cons (.con (.int 7)) (.cons (.con (.int 1)) .nil))) (.cons (.tup (.cons (.con (.int 6)) (.cons (.con (.int 1)) .nil))) (.cons (.tup (.cons (.con (.int 3)) (.cons (.con (.int 1)) .nil))) (.cons (.tup (.cons (.con (.int 1)) (.cons (.con (.int 1)) .nil))) (.cons (.tup (.cons (.con (.int 0)) (.cons (.con (.int 1)) .nil))) .nil)))))) (.cons (.tup (.cons (.tup (.cons (.con (.int 6)) (.cons (.con (.int 1)) .nil))) (.cons (.tup (.cons (.con (.int 3)) (.cons (.con (.int 1)) .nil))) (.cons (.tup (.cons (.con (.int 0)) (.cons (.con (.int 1)) .nil))) (.cons (.tup (.cons (.con (.int 1)) (.cons (.con (.int 1)) .nil))) (.cons (.tup (.cons (.con (.int 0)) (.cons (.con (.int 1)) .nil))) .nil)))))) .nil))))
    (.seq (.ifs (.or (.cmp .ne (.var 6) (.bin .add (.var 7) (.lst false (.cons (.tup (.cons (.tup (.cons (.con (.int 6)) (.cons (.con (.int 1)) .nil))) (.cons (.tup (.cons (.con (.int 6)) (.cons (.con (.int 1)) .nil))) (.cons (.tup (.cons (.con (.int 0)) (.cons (.con (.int 1)) .nil))) (.cons (.tup (.cons (.con (.int 1)) (.cons (.con (.int 1)) .nil))) (.cons (.tup (.cons (.con (.int 0)) (.cons (.con (.int 1)) .nil))) .nil)))))) .nil)))) (.cmp .ne (.call 24 (.cons (.var 4) (.cons (.var 5) .nil))) (.tup (.cons (.con (.int 1)) (.cons (.con (.int 1)) .nil)))))
    (.seq (.ret (.con (.bl false)))
    .skip)
    .skip)
    (.seq (.asg (.name 8) (.tup (.cons (.con (.str [109, 97, 100, 101])) (.cons (.con (.str [104, 101, 114, 101])) (.cons (.con (.int 1)) (.cons (.con (.int 1)) (.cons (.tup (.cons (.con (.int 50)) (.cons (.con (.str [119, 104, 111, 108, 101])) (.cons (.con (.str [111, 119, 110])) .nil)))) (.cons (.tup (.cons (.tup (.cons (.con (.str [114, 97, 119])) (.cons (.con (.str [97, 119, 97, 121])) (.cons (.con (.int 0)) (.cons (.con (.int 9)) .nil))))) .nil)) .nil))))))))
    (.seq (.ifs (.or (.cmp .ne (.call 24 (.cons (.var 8) (.cons (.tup (.cons (.tup (.cons (.con (.int 1)) (.cons (.con (.int 1)) .nil))) (.cons (.tup (.cons (.con (.int 1)) (.cons (.con (.int 1)) .nil))) .nil))) .nil))) (.tup (.cons (.con (.int 1)) .nil))) (.cmp .ne (.call 24 (.cons (.var 8) (.cons (.tup (.cons (.tup (.cons (.con (.int 1)) (.cons (.con (.int 1)) .nil))) (.cons (.tup (.cons (.con (.int 101)) (.cons (.con (.int 100)) .nil))) .nil))) .nil))) (.tup (.cons (.con (.int 0)) .nil))))
    (.seq (.ret (.con (.bl false)))
    .skip)
    .skip)
    (.seq (.asg (.name 5) (.tup (.cons (.tup (.cons (.con (.int 1)) (.cons (.con (.int 1)) .nil))) (.cons (.tup (.cons (.con (.int 2)) (.cons (.con (.int 1)) .nil))) (.cons (.tup (.cons (.con (.int 7)) (.cons (.con (.int 2)) .nil))) (.cons (.tup (.cons (.con (.int 1)) (.cons (.con (.int 1)) .nil))) (.cons (.tup (.cons (.con (.int 1)) (.cons (.con (.int 2)) .nil))) .nil)))))))
    (.seq (.ret (.and (.cmp .eq (.call 24 (.cons (.var 4) (.cons (.var 5) .nil))) (.tup (.cons (.con (.int 0)) (.cons (.con (.int 0)) .nil)))) (.and (.cmp .eq (.call 27 (.cons (.var 4) (.cons (.var 5) .nil))) (.tup (.cons (.con (.int 1)) (.cons (.con (.int 16)) .nil)))) (.not (.call 25 (.cons (.var 4) (.cons (.var 5) .nil)))))))
    .skip))))))))))
theorem tail47_ok (v0 v1 w2 w3 w4 w5 w6 w7 w8 w9 w10 : Option D) (o : Ob) : exec (callF FF 199) tail47 [v0, v1, w2, w3, w4, w5, w6, w7, w8, w9, w10] [o] = .ok (.rt (.bl true)) [o] := by
  kernel_rfl
/-! the state of the draws -/
theorem ints_cl : ∀ (ns : List Int), cls (ns.map D.int) = true ∧ deps (ns.map D.int) = 0
  | [] => ⟨rfl, rfl⟩
  | n :: ns => by
    obtain ⟨h1, h2⟩ := ints_cl ns
    exact ⟨by show (true && cls (ns.map D.int)) = true; rw [h1]; rfl, by show max 0 (deps (ns.map D.int)) = 0; omega⟩
theorem ne_ints {S : Store} {ns : List Int} : cmpF .ne (.lst (ns.map D.int)) (.lst []) S = .ok (.bl (!ns.isEmpty)) S := by
  obtain ⟨h1, h2⟩ := ints_cl ns
  show (if okD (.lst (ns.map D.int)) && okD (.lst []) then R.ok (D.bl (!eqD (.lst (ns.map D.int)) (.lst []))) S else .no) = _
  have : okD (.lst (ns.map D.int)) = true := by
    unfold okD
    have : cl (.lst (ns.map D.int)) = true := h1
    rw [this]
    exact decide_eq_true (by show deps _ + 1 ≤ 60; omega)
  rw [this]
  cases ns <;> rfl
theorem begun_ok {k : Nat} {S : Store} {ns : List Int} (h : ns.length ≤ 63) : ∃ o, callF FF (k + 1) 46 [scrD ns] S = .ok (.ref S.length) (S ++ [o]) ∧ RngO 0 o := by
  have c1 : collect (turnF (callF FF k) (.name 2) [2] (.some (.cmp .ge (.var 2) (.bin .pow (.con (.int 10)) (.con (.int 18))))) (.var 2) [some (scrD ns), none, none]) (ns.map D.int) S = .ok ((ns.filter fun n => decide (1000000000000000000 ≤ n)).map D.int) S := by
    have := collect_map (f := turnF (callF FF k) (.name 2) [2] (.some (.cmp .ge (.var 2) (.bin .pow (.con (.int 10)) (.con (.int 18))))) (.var 2) [some (scrD ns), none, none]) (S := S) (c := D.int) (g := fun n => if 1000000000000000000 ≤ n then some (D.int n) else none) (rows := ns) (fun n _ => by
      have hb : bindP (.name 2) (.int n) (wipeE [some (scrD ns), none, none] [2]) = some [some (scrD ns), none, some (.int n)] := by simp [bindP, wipeE]
      have hp : opF .pow (.int 10) (.int 18) S = .ok (.int (1000000000000000000)) S := rfl
      rw [turn_run hb]
      by_cases hn : (1000000000000000000 : Int) ≤ n
      · simp [hp, hn]
      · simp [hp, hn])
    rw [this]
    congr 1
    clear this h
    induction ns with
    | nil => rfl
    | cons n ns ih =>
      rw [List.filterMap_cons, List.filter_cons]
      by_cases hn : (1000000000000000000 : Int) ≤ n
      · simp [hn, ih]
      · simp [hn, ih]
  generalize hG : (ns.filter fun n => decide (1000000000000000000 ≤ n)) = G at c1
  have hGl : G.length ≤ 63 := by rw [← hG]; exact Nat.le_trans (List.length_filter_le ..) h
  have hGm : ∀ g ∈ G, (1000000000000000000 : Int) ≤ g := fun g hg => by rw [← hG] at hg; exact of_decide_eq_true (List.mem_filter.mp hg).2
  have hz : ∀ (S : Store) (kk : Store → R D), szR (G.map D.int) S kk = kk S := fun S kk => if_pos (by rw [List.length_map]; unfold LINE; omega)
  have ad : ∀ S, opF .add (.lst (ns.map D.int)) (.lst [.int (ns.length : Int)]) S = .ok (.lst ((ns ++ [(ns.length : Int)]).map D.int)) S := fun S => by
    rw [addL (by simp; unfold LINE; omega)]
    simp
  have li : ∀ S, biF (.list false) [scrD ns] S = .ok (.lst (ns.map D.int)) S := fun S => rfl
  have ln : ∀ S, biF .len [scrD ns] S = .ok (.int (ns.length : Int)) S := fun S => by
    show biF .len [.scr (ns.map D.int)] S = _
    rw [biF_lenS, List.length_map]
  have gs : getFR (scrD ns) S = .ok (ns.map D.int) S := rfl
  have dc : ∀ a b, dicF [.str [99, 101, 108, 108, 115], .str [108, 101, 102, 116], .str [115, 112, 111, 116]] [a, b, .int 0] S = .ok (.ref S.length) (S ++ [.dic [(kCells, a), (kLeft, b), (kSpot, .int 0)]]) := fun a b => rfl
  have ne := ne_ints (S := S) (ns := G)
  refine ⟨md (ns ++ [(ns.length : Int)]) (G.headD 0) 0, ?_, _, _, _, rfl, by simp, ?_, Int.le_refl _, Int.le_refl _⟩
  · rw [call_eq F_46 rfl]
    generalize hN : ns.map D.int = N at *
    generalize hC : (ns ++ [(ns.length : Int)]).map D.int = C at *
    cases G with
    | nil =>
      simp [f46, c1, gs, li, ln, ad, ne, dc]
      unfold md; rw [hC]; rfl
    | cons g G =>
      simp only [List.map_cons] at c1 hz ne
      simp [f46, c1, gs, hz, li, ln, ad, ne, dc]
      unfold md; rw [hC]; rfl
  · cases G with
    | nil => exact Int.le_refl _
    | cons g G => have := hGm g List.mem_cons_self; show 0 ≤ g; omega
/-! the laps -/
theorem GoodT.good {t : Th} (h : GoodT t 3 4) : Good t := by
  obtain ⟨hh, lo, hi, sh, w, ow, ps, rfl, hlo⟩ := h.top
  exact ⟨h.ok, by have := h.mv; omega, by have := h.mkd; omega, h.sz, rfl, hlo⟩
theorem prices_sm : ∀ {rs : List (Th × List Nat)} {fs : List (Int × Int)}, (∀ r ∈ rs, r.1.ok) → PricesOk rs fs → ∀ f ∈ fs, f.1.natAbs < 2 ^ 200 ∧ f.2.natAbs < 2 ^ 200
  | [], [], _, _, f, hf => by cases hf
  | [], _ :: _, _, h, _, _ => h.elim
  | _ :: _, [], _, h, _, _ => h.elim
  | r :: rs, g :: fs, hk, h, f, hf => by
    rcases List.mem_cons.mp hf with rfl | hf
    · exact (price_fb (hk r List.mem_cons_self) h.1).small (by decide)
    · exact prices_sm (fun r hr => hk r (List.mem_cons_of_mem _ hr)) h.2 f hf
theorem kept_pl {t : Th} {fs : List (Int × Int)} (hk : t.ok) (hs : t.size ≤ 10) (hp : PricesOk (t.rows 0) fs) : Pl (.lst [t.d, .tup (fs.map fr)]) := by
  obtain ⟨a1, a2, a3⟩ := frs_pl (prices_sm (Th.rows_ok hk) hp)
  have hl := hp.len
  rw [Th.rows_len] at hl
  have w := Th.w_d t
  have d := Th.dep_d t
  refine ⟨?_, ?_, ?_⟩
  · show (sh t.d && (shs _ && true)) = true
    rw [Th.sh_d hk, a1] <;> rfl
  · show wD t.d + 1 + (wDs _ + 1 + 0) ≤ 200000
    omega
  · show max (dep t.d) (max (deps _ + 1) 0) + 1 ≤ 60
    omega
theorem inner47 {t : Th} (h : Good t) {v0 w2 w3 w6 w7 w8 : Option D} : ∀ (n : Nat) (lo : Int) (B : Nat) (o : Ob) (w5 w9 w10 : Option D), RngO B o → B + 30 * n < 2 ^ 57 → ∃ o' u5 u9 u10, forF (bodyF (callF FF 199) (.name 9) body47b) (ascend lo n) [v0, some (.ref 0), w2, w3, some t.d, w5, w6, w7, w8, w9, w10] [o] = .ok (.nx [v0, some (.ref 0), w2, w3, some t.d, u5, w6, w7, w8, u9, u10]) [o'] ∧ RngO (B + 30 * n) o'
  | 0, lo, B, o, w5, w9, w10, hr, _ => ⟨o, w5, w9, w10, rfl, hr⟩
  | n + 1, lo, B, o, w5, w9, w10, hr, hB => by
    obtain ⟨fs, o1, e1, g1, hp⟩ := prices_ok (k := 188) (n := 0) (S := [o]) (t := t) ⟨o, rfl, hr⟩ (by omega) h.ok h.sz
    have e2 := law_right_ok (k := 182) (S := [o1]) h hp
    have pl := kept_pl h.ok h.sz hp
    have r1 := repr_ok (S := [o1]) pl
    have n1 := ne_same (S := [o1]) pl.1
    obtain ⟨o', u5, u9, u10, e3, g3⟩ := inner47 h (v0 := v0) (w2 := w2) (w3 := w3) (w6 := w6) (w7 := w7) (w8 := w8) n (lo + 1) (B + 30) o1 (some (.tup (fs.map fr))) (some (.int lo)) (some (.str (shownD (.lst [t.d, .tup (fs.map fr)])))) g1 (by omega)
    refine ⟨o', u5, u9, u10, ?_, by rw [show B + 30 * (n + 1) = B + 30 + 30 * n by omega]; exact g3⟩
    rw [ascend, forF_cons, bodyF_name (by simp)]
    simp only [Nat.reduceAdd, List.set_cons_zero] at e1 e2
    clear pl hp
    generalize fs.map fr = FS at e1 e2 r1 n1 e3 ⊢
    generalize shownD (.lst [t.d, .tup FS]) = SH at r1 n1 e3 ⊢
    simp [body47b, e1, r1, e2, n1]
    exact e3
theorem outer47 {v0 w3 w6 w7 w8 : Option D} : ∀ (n : Nat) (lo : Int) (B : Nat) (o : Ob) (w2 w4 w5 w9 w10 : Option D), RngO B o → B + 7000 * n < 2 ^ 56 → ∃ o' u2 u4 u5 u9 u10, forF (bodyF (callF FF 199) (.name 2) body47a) (ascend lo n) [v0, some (.ref 0), w2, w3, w4, w5, w6, w7, w8, w9, w10] [o] = .ok (.nx [v0, some (.ref 0), u2, w3, u4, u5, w6, w7, w8, u9, u10]) [o'] ∧ RngO (B + 7000 * n) o'
  | 0, lo, B, o, w2, w4, w5, w9, w10, hr, _ => ⟨o, w2, w4, w5, w9, w10, rfl, hr⟩
  | n + 1, lo, B, o, w2, w4, w5, w9, w10, hr, hB => by
    obtain ⟨t, o1, e1, g1, hg⟩ := good_ok (k := 190) (n := 0) (S := [o]) (mvg := 3) (mkg := 4) ⟨o, rfl, hr⟩ (by omega) (by decide) (by decide) (by decide) (by decide)
    obtain ⟨o2, u5, u9, u10, e2, g2⟩ := inner47 hg.good (v0 := v0) (w2 := some (.int lo)) (w3 := w3) (w6 := w6) (w7 := w7) (w8 := w8) 4 0 (B + 6000) o1 w5 w9 w10 g1 (by omega)
    obtain ⟨o3, z2, z4, z5, z9, z10, e3, g3⟩ := outer47 (v0 := v0) (w3 := w3) (w6 := w6) (w7 := w7) (w8 := w8) n (lo + 1) (B + 7000) o2 (some (.int lo)) (some t.d) u5 u9 u10 (g2.le (by omega)) (by omega)
    refine ⟨o3, z2, z4, z5, z9, z10, ?_, by rw [show B + 7000 * (n + 1) = B + 7000 + 7000 * n by omega]; exact g3⟩
    rw [ascend, forF_cons, bodyF_name (by simp)]
    have s4 : small 4 = true := by decide
    simp only [Nat.reduceAdd, List.set_cons_zero] at e1
    have eA : ∀ ρ S, exec (callF FF 199) body47a ρ S = exec (callF FF 199) (.seq (.asg (.name 4) (.call 45 (.cons (.var 1) (.cons (.con (.int 3)) (.cons (.con (.int 4)) .nil))))) (.seq (.for (.name 9) (.rng1 (.con (.int 4))) body47b) .skip)) ρ S := fun _ _ => rfl
    rw [eA]
    simp [e1, s4]
    rw [e2]
    simp
    exact e3
theorem k04_ev (ns : List Int) (h : ns.length ≤ 63) : ∃ S, callF FF 200 47 [scrD ns] [] = .ok (.bl true) S := by
  obtain ⟨o, e1, g1⟩ := begun_ok (k := 198) (S := []) h
  have ln : ∀ S, biF .len [scrD ns] S = .ok (.int (ns.length : Int)) S := fun S => by
    show biF .len [.scr (ns.map D.int)] S = _
    rw [biF_lenS, List.length_map]
  obtain ⟨o2, u2, u4, u5, u9, u10, e2, g2⟩ := outer47 (v0 := some (scrD ns)) (w3 := none) (w6 := none) (w7 := none) (w8 := none) (8 + if (16 : Int) < (ns.length : Int) then 16 else (ns.length : Int)).toNat 0 0 o none none none none none g1 (by split <;> omega)
  have e3 := tail47_ok (some (scrD ns)) (some (.ref 0)) u2 none u4 u5 none none none u9 u10 o2
  have sm : small (8 + if (16 : Int) < (ns.length : Int) then 16 else (ns.length : Int)) = true := small_of (by split <;> omega) (by split <;> omega)
  refine ⟨[o2].take 0, ?_⟩
  have hb : f47.body = .seq (.asg (.name 1) (.call 46 (.cons (.var 0) .nil))) (.seq (.for (.name 2) (.rng1 (.bin .add (.con (.int 8)) (.bi .min2 (.cons (.bi .len (.cons (.var 0) .nil)) (.cons (.con (.int 16)) .nil))))) body47a) tail47) := rfl
  rw [call_eq F_47 rfl, hb]
  simp only [Nat.reduceAdd, List.length_nil, List.nil_append] at e1
  generalize tail47 = T at e3 ⊢
  generalize body47a = A at e2 ⊢
  have hn : f47.n - f47.ps = 10 := rfl
  rw [hn]
  simp [e1, ln, sm]
  rw [e2]
  simp only [rb_ok, flR_nx]
  rw [e3]
  rfl
end Pf

set_option linter.all false
set_option Elab.async false
set_option maxRecDepth 100000
set_option maxHeartbeats 4000000
set_option autoImplicit false
/-! PfT7: texts of prices; the law k17 -/
namespace Pf
open TL
def pricesT (fs : List (Int × Int)) : List Nat := joinL [32] (fs.map frT)
theorem FrS.of {t : Th} {f : Int × Int} (hk : t.ok) (h : PriceOk t f) : FrS f := by
  have b := price_fb hk h
  have h1 := b.p1; have h2 := b.q1; have h3 := b.q0
  have e : (100 : Int) ^ 1 = 100 := rfl
  exact ⟨b.p0, by simp at h1; omega, h3, by omega, h.g⟩
theorem PricesOk.frs : ∀ {rs : List (Th × List Nat)} {fs : List (Int × Int)}, (∀ r ∈ rs, r.1.ok) → PricesOk rs fs → ∀ f ∈ fs, FrS f
  | [], [], _, _, f, hf => by cases hf
  | [], _ :: _, _, h, _, _ => h.elim
  | _ :: _, [], _, h, _, _ => h.elim
  | r :: rs, g :: fs, hk, h, f, hf => by
    rcases List.mem_cons.mp hf with rfl | hf
    · exact FrS.of (hk r List.mem_cons_self) h.1
    · exact PricesOk.frs (fun r hr => hk r (List.mem_cons_of_mem _ hr)) h.2 f hf
theorem frT_len {f : Int × Int} (h : FrS f) : (frT f).length ≤ 61 := by
  have l1 := numL_len30 (n := f.1.toNat) (by have := h.p1; have := h.p0; omega)
  have l2 := numL_len30 (n := f.2.toNat) (by have := h.q1; have := h.q0; omega)
  unfold frT
  simp
  omega
theorem frT_sum : ∀ {fs : List (Int × Int)}, (∀ f ∈ fs, FrS f) → ((fs.map frT).map (·.length)).sum ≤ 61 * fs.length
  | [], _ => by simp
  | f :: fs, h => by
    have h1 := frT_len (h f List.mem_cons_self)
    have h2 := frT_sum (fs := fs) fun g hg => h g (List.mem_cons_of_mem _ hg)
    simp at h2 ⊢
    omega
theorem frT_signs {f : Int × Int} : ∀ c ∈ frT f, 47 ≤ c ∧ c ≤ 57 := fun c hc => by
  unfold frT at hc
  rcases List.mem_append.mp hc with h | h
  · have := numL_dig c h; omega
  · rcases List.mem_cons.mp h with rfl | h
    · omega
    · have := numL_dig c h; omega
section
variable {S : Store} {k : Nat}
theorem prices_text_ok {t : Th} {fs : List (Int × Int)} (h : Good t) (hp : PricesOk (t.rows 0) fs) : callF FF (k + 15) 52 [t.d, .tup (fs.map fr)] S = .ok (.str (pricesT fs)) S := by
  have e1 := need_priced_ok (k := k) (S := S) h hp
  have hf := PricesOk.frs (Th.rows_ok h.ok) hp
  have hl : fs.length ≤ 10 := by have := hp.len; rw [Th.rows_len] at this; have := h.sz; omega
  have hs := frT_sum hf
  have c1 : ev (callF FF (k + 14)) c52_0 [some t.d, some (.tup (fs.map fr)), none] S = .ok (.lst ((fs.map frT).map .str)) S := by
    have h1 : collect (turnF (callF FF (k + 14)) (.name 2) [2] .none (.call 51 (.cons (.var 2) .nil)) [some t.d, some (.tup (fs.map fr)), none]) (fs.map fr) S = .ok ((fs.map frT).map .str) S := by
      rw [List.map_map]
      refine collect_maps fun f hm => ?_
      have hb : bindP (.name 2) (fr f) (wipeE [some t.d, some (.tup (fs.map fr)), none] [2]) = some [some t.d, some (.tup (fs.map fr)), some (fr f)] := by simp [bindP, wipeE]
      have e2 := fraction_text_ok (k := k + 13) (S := S) (hf f hm)
      rw [turn_run hb]
      simp only [Nat.add_assoc, Nat.reduceAdd] at e2
      simp [e2]
    have hz : ∀ (S : Store) (kk : Store → R D), szR ((fs.map frT).map .str) S kk = kk S := fun S kk => if_pos (by simp; unfold LINE; omega)
    generalize (fs.map frT).map D.str = FT at *
    unfold c52_0
    simp [h1, hz]
  have j1 : mthF .join (.str [32]) [.lst ((fs.map frT).map .str)] S = .ok (.str (pricesT fs)) S := join_ok (by rw [List.length_map]; unfold LINE; omega)
  have rc : ∀ S, recvOk .join (.str [32]) S = true := fun S => rfl
  rw [call_eq F_52 rfl]
  generalize (fs.map frT).map D.str = FT at *
  simp [f52, e1, rc, c1, j1]
  rw [finR_rt rfl, List.take_length]
theorem no_unit : ∀ {fs : List (Int × Int)}, ((fs.map fr).any fun x => eqD x (.tup [])) = false
  | [] => rfl
  | f :: fs => by
    show (eqD (fr f) (.tup []) || (fs.map fr).any fun x => eqD x (.tup [])) = false
    rw [no_unit (fs := fs)]; rfl
theorem read_prices_ok {t : Th} {fs : List (Int × Int)} (h : Good t) (hp : PricesOk (t.rows 0) fs) : callF FF (k + 14) 50 [t.d, .str (pricesT fs)] S = .ok (.tup (fs.map fr)) S := by
  have e1 := need_good_ok (k := k) (S := S) h
  have hf := PricesOk.frs (Th.rows_ok h.ok) hp
  have hle := hp.len
  have hl : fs.length ≤ 10 := by have := hle; rw [Th.rows_len] at this; have := h.sz; omega
  have hne : fs ≠ [] := by
    obtain ⟨ns, hr⟩ := Th.rows_head t 0
    intro e
    rw [e] at hle
    rw [List.length_eq_zero_iff.mp hle] at hr
    cases hr
  have hs := frT_sum hf
  have jl := joinL_len (c := 32) (fs.map frT)
  rw [List.length_map] at jl
  have sp : ∀ S, mthF .split (.str (pricesT fs)) [.str [32]] S = .ok (.lst ((fs.map frT).map .str)) S := fun S => split_ok (by decide) (by simp [hne]) (fun p hp hc => by
    obtain ⟨f, _, rfl⟩ := List.mem_map.mp hp
    have := frT_signs 32 hc
    omega) (by unfold LINE; omega)
  have rc : ∀ S, recvOk .split (.str (pricesT fs)) S = true := fun S => rfl
  have c1 : ev (callF FF (k + 13)) c50_0 [some t.d, some (.str (pricesT fs)), none, none] S = .ok (.lst (fs.map fr)) S := by
    have h1 : collect (turnF (callF FF (k + 13)) (.name 3) [3] .none (.call 49 (.cons (.var 3) .nil)) [some t.d, some (.str (pricesT fs)), none, none]) ((fs.map frT).map .str) S = .ok (fs.map fr) S := by
      rw [List.map_map]
      refine collect_maps fun f hm => ?_
      have hb : bindP (.name 3) (.str (frT f)) (wipeE [some t.d, some (.str (pricesT fs)), none, none] [3]) = some [some t.d, some (.str (pricesT fs)), none, some (.str (frT f))] := by simp [bindP, wipeE]
      have e2 := fraction_of_ok (k := k + 10) (S := S) (hf f hm)
      show turnF (callF FF (k + 13)) (.name 3) [3] .none (.call 49 (.cons (.var 3) .nil)) [some t.d, some (.str (pricesT fs)), none, none] (.str (frT f)) S = _
      rw [turn_run hb]
      simp only [Nat.add_assoc, Nat.reduceAdd] at e2
      simp [e2]
    have hz : ∀ (S : Store) (kk : Store → R D), szR (fs.map fr) S kk = kk S := fun S kk => if_pos (by simp; unfold LINE; omega)
    generalize (fs.map frT).map D.str = FT at *
    generalize fs.map fr = FF' at *
    unfold c50_0
    simp [rc, sp, h1, hz]
  have nu := numbered_ok (k := k + 2) (N := 10) (S := S) h.sz (by decide) h.ok
  have pg := prices_for_good_ok (k := k + 1) (S := S) h.ok h.sz hp
  obtain ⟨a1, a2, a3⟩ := frs_pl (prices_sm (Th.rows_ok h.ok) hp)
  have ni : cmpF .inD (.tup []) (.tup (fs.map fr)) S = .ok (.bl false) S := by
    show (if okD (.tup []) && okD (.tup (fs.map fr)) then R.ok (D.bl ((fs.map fr).any fun x => eqD x (.tup []))) S else .no) = _
    rw [no_unit, okD_of (show sh (.tup (fs.map fr)) = true from a1) (by show deps _ + 1 ≤ 60; omega)]
    rfl
  have is : isiF .str (.str (pricesT fs)) S = .ok (.bl true) S := rfl
  have l1 : biF .len [.tup (fs.map fr)] S = .ok (.int (fs.length : Int)) S := by rw [biF_lenT, List.length_map]
  have l2 : biF .len [.lst ((t.rows 0).map rowP)] S = .ok (.int (fs.length : Int)) S := by rw [biF_lenL, List.length_map, hle]
  rw [call_eq F_50 rfl]
  simp only [Nat.add_assoc, Nat.reduceAdd] at nu pg
  have hb : below S.length (.tup (fs.map fr)) = true := below_frs fs
  have hFl : (fs.map fr).length = fs.length := List.length_map ..
  generalize fs.map fr = FF' at *
  generalize (t.rows 0).map rowP = RP at *
  simp [f50, e1, is, c1, tuple_lst, ni, l1, nu, l2, pg, hFl]
  rw [finR_rt hb, List.take_length]
end
def tail62 : St := (.seq (.asg (.name 3) (.tup (.cons (.con (.str [109, 97, 100, 101])) (.cons (.con (.str [104, 101, 114, 101])) (.cons (.con (.int 2)) (.cons (.con (.int 2)) (.cons (.tup (.cons (.con (.int 50)) (.cons (.con (.str [119, 104, 111, 108, 101])) (.cons (.con (.str [110, 111, 110, 101])) .nil)))) (.cons (.tup (.cons (.tup (.cons (.con (.str [114, 97, 119])) (.cons (.con (.str [97, 119, 97, 121])) (.cons (.con (.int 1)) (.cons (.con (.int 5)) .nil))))) (.cons (.tup (.cons (.con (.str [114, 97, 119])) (.cons (.con (.str [104, 101, 114, 101])) (.cons (.con (.int 1)) (.cons (.con (.int 1)) .nil))))) .nil))) .nil))))))))
    (.seq (.asg (.name 4) (.tup (.cons (.con (.str [109, 97, 100, 101])) (.cons (.con (.str [97, 119, 97, 121])) (.cons (.con (.int 1)) (.cons (.con (.int 1)) (.cons (.tup (.cons (.con (.int 60)) (.cons (.con (.str [111, 119, 110])) (.cons (.con (.str [111, 119, 110])) .nil)))) (.cons (.tup (.cons (.var 3) (.cons (.tup (.cons (.con (.str [114, 97, 119])) (.cons (.con (.str [104, 101, 114, 101])) (.cons (.con (.int 0)) (.cons (.con (.int 3)) .nil))))) .nil))) .nil))))))))
    (.seq (.asg (.name 5) (.lst false (.cons (.con (.str [109, 97, 100, 101, 32, 97, 119, 97, 121, 32, 49, 32, 49, 32, 54, 48, 32, 111, 119, 110, 32, 111, 119, 110])) (.cons (.con (.str [46, 32, 109, 97, 100, 101, 32, 104, 101, 114, 101, 32, 50, 32, 50, 32, 53, 48, 32, 119, 104, 111, 108, 101, 32, 110, 111, 110, 101])) (.cons (.con (.str [46, 46, 32, 114, 97, 119, 32, 97, 119, 97, 121, 32, 49, 32, 53])) .nil)))))
    (.seq (.asg (.name 6) (.mth .join (.con (.str [10])) (.cons (.bin .add (.var 5) (.lst false (.cons (.con (.str [46, 46, 32, 114, 97, 119, 32, 104, 101, 114, 101, 32, 49, 32, 49])) (.cons (.con (.str [46, 32, 114, 97, 119, 32, 104, 101, 114, 101, 32, 48, 32, 51])) .nil)))) .nil)))
    (.seq (.ifs (.or (.cmp .ne (.call 60 (.cons (.var 4) .nil)) (.var 6)) (.cmp .ne (.call 57 (.cons (.var 6) .nil)) (.var 4)))
    (.seq (.ret (.con (.bl false)))
    .skip)
    .skip)
    (.seq (.asg (.name 7) (.tup (.cons (.tup (.cons (.con (.int 1)) (.cons (.con (.int 1)) .nil))) (.cons (.tup (.cons (.con (.int 2)) (.cons (.con (.int 1)) .nil))) (.cons (.tup (.cons (.con (.int 7)) (.cons (.con (.int 2)) .nil))) (.cons (.tup (.cons (.con (.int 1)) (.cons (.con (.int 1)) .nil))) (.cons (.tup (.cons (.con (.int 1)) (.cons (.con (.int 2)) .nil))) .nil)))))))
    (.seq (.ifs (.cmp .ne (.call 52 (.cons (.var 4) (.cons (.var 7) .nil))) (.con (.str [49, 47, 49, 32, 50, 47, 49, 32, 55, 47, 50, 32, 49, 47, 49, 32, 49, 47, 50])))
    (.seq (.ret (.con (.bl false)))
    .skip)
    .skip)
    (.seq (.ret (.cmp .eq (.call 50 (.cons (.var 4) (.cons (.con (.str [49, 47, 49, 32, 50, 47, 49, 32, 55, 47, 50, 32, 49, 47, 49, 32, 49, 47, 50])) .nil))) (.var 7)))
    .skip))))))))
theorem tail62_ok (v0 v1 w2 w3 w4 w5 w6 w7 w8 w9 w10 : Option D) (o : Ob) : exec (callF FF 199) tail62 [v0, v1, w2, w3, w4, w5, w6, w7, w8, w9, w10] [o] = .ok (.rt (.bl true)) [o] := by
  kernel_rfl
theorem text_signs {t : Th} : ∀ c ∈ t.text, c < 0x110000 := fun c hc => by
  rcases mem_joinL hc with h | ⟨w, h1, h2⟩
  · omega
  · rw [Th.its_tr] at h1
    obtain ⟨q, _, rfl⟩ := List.mem_map.mp h1
    have := rowT_signs c h2; omega
theorem pricesT_signs {fs : List (Int × Int)} : ∀ c ∈ pricesT fs, c < 0x110000 := fun c hc => by
  rcases mem_joinL hc with h | ⟨w, h1, h2⟩
  · omega
  · obtain ⟨q, _, rfl⟩ := List.mem_map.mp h1
    have := frT_signs c h2; omega
theorem words62 {fs : List (Int × Int)} {S : Store} {v0 v1 v2 v3 v4 v5 v6 v8 v9 v10 : Option D} (hf : ∀ f ∈ fs, FrS f) (hl : fs.length ≤ 10) : ev (callF FF 199) c62_0 [v0, v1, v2, v3, v4, v5, v6, some (.tup (fs.map fr)), v8, v9, v10] S = .ok (.lst ((fs.map frT).map .str)) S := by
  have h1 : collect (turnF (callF FF 199) (.tup [.name 9, .name 10]) [9, 10] .none (.bin .add (.bin .add (.bi .str (.cons (.var 9) .nil)) (.con (.str [47]))) (.bi .str (.cons (.var 10) .nil))) [v0, v1, v2, v3, v4, v5, v6, some (.tup (fs.map fr)), v8, v9, v10]) (fs.map fr) S = .ok ((fs.map frT).map .str) S := by
    rw [List.map_map]
    refine collect_maps fun f hm => ?_
    have hb : bindP (.tup [.name 9, .name 10]) (fr f) (wipeE [v0, v1, v2, v3, v4, v5, v6, some (.tup (fs.map fr)), v8, v9, v10] [9, 10]) = some [v0, v1, v2, v3, v4, v5, v6, some (.tup (fs.map fr)), v8, some (.int f.1), some (.int f.2)] := by simp [bindP, bindPs, wipeE, fr]
    have h := hf f hm
    have h1 := h.p0; have h2 := h.p1; have h3 := h.q0; have h4 := h.q1
    have e1 := fun S => str_int (S := S) h1 (Int.lt_trans h2 (by decide))
    have e2 := fun S => str_int (S := S) (Int.le_of_lt h3) (Int.lt_trans h4 (by decide))
    have l1 := numL_len30 (n := f.1.toNat) (by omega)
    have l2 := numL_len30 (n := f.2.toNat) (by omega)
    have a1 : ∀ S, opF .add (.str (numL f.1.toNat)) (.str [47]) S = .ok (.str (numL f.1.toNat ++ [47])) S := fun S => addS (by simp; unfold LINE; omega)
    have a2 : ∀ S, opF .add (.str (numL f.1.toNat ++ [47])) (.str (numL f.2.toNat)) S = .ok (.str (frT f)) S := fun S => by
      rw [addS (by simp; unfold LINE; omega)]
      unfold frT; simp
    rw [turn_run hb]
    simp [e1, e2, a1, a2]
  have hz : ∀ (S : Store) (kk : Store → R D), szR ((fs.map frT).map .str) S kk = kk S := fun S kk => if_pos (by simp; unfold LINE; omega)
  generalize (fs.map frT).map D.str = FT at *
  unfold c62_0
  simp [h1, hz]
theorem outer62 {v0 w3 w5 : Option D} : ∀ (n : Nat) (lo : Int) (B : Nat) (o : Ob) (w2 w4 w6 w7 w8 w9 w10 : Option D), RngO B o → B + 7000 * n < 2 ^ 56 → ∃ o' u2 u4 u6 u7 u8 u9 u10, forF (bodyF (callF FF 199) (.name 2) b62_0) (ascend lo n) [v0, some (.ref 0), w2, w3, w4, w5, w6, w7, w8, w9, w10] [o] = .ok (.nx [v0, some (.ref 0), u2, w3, u4, w5, u6, u7, u8, u9, u10]) [o'] ∧ RngO (B + 7000 * n) o'
  | 0, lo, B, o, w2, w4, w6, w7, w8, w9, w10, hr, _ => ⟨o, w2, w4, w6, w7, w8, w9, w10, rfl, hr⟩
  | n + 1, lo, B, o, w2, w4, w6, w7, w8, w9, w10, hr, hB => by
    obtain ⟨t, o1, e1, g1, hg⟩ := good_ok (k := 190) (n := 0) (S := [o]) (mvg := 3) (mkg := 4) ⟨o, rfl, hr⟩ (by omega) (by decide) (by decide) (by decide) (by decide)
    have hgd := hg.good
    obtain ⟨fs, o2, e2, g2, hp⟩ := prices_ok (k := 188) (n := 0) (S := [o1]) (t := t) ⟨o1, rfl, g1⟩ (by omega) hgd.ok hgd.sz
    have lt : callF FF 199 61 [t.d, .int 0] [o1] = .ok (.str t.text) [o1] := law_text_ok 10 t 189 0 [o1] hgd.sz (by decide) (by decide) hgd.ok
    have gt := good_text_ok (k := 185) (S := [o1]) hgd
    have rg := read_good_ok (k := 185) (S := [o1]) hgd
    have hf := PricesOk.frs (Th.rows_ok hgd.ok) hp
    have hl : fs.length ≤ 10 := by have := hp.len; rw [Th.rows_len] at this; have := hgd.sz; omega
    have pt := prices_text_ok (k := 184) (S := [o2]) hgd hp
    have rp := read_prices_ok (k := 185) (S := [o2]) hgd hp
    have wd := fun v2 v3 v4 v5 v6 v8 v9 v10 => words62 (S := [o2]) (v0 := v0) (v1 := some (.ref 0)) (v2 := v2) (v3 := v3) (v4 := v4) (v5 := v5) (v6 := v6) (v8 := v8) (v9 := v9) (v10 := v10) hf hl
    have hs := frT_sum hf
    have j1 : mthF .join (.str [32]) [.lst ((fs.map frT).map .str)] [o2] = .ok (.str (pricesT fs)) [o2] := join_ok (by rw [List.length_map]; unfold LINE; omega)
    have rc : ∀ S, recvOk .join (.str [32]) S = true := fun S => rfl
    have ne1 : cmpF .ne (.lst [.str t.text, .str t.text]) (.lst [.str t.text, .str t.text]) [o1] = .ok (.bl false) [o1] := by
      have ts := okD_str (text_signs (t := t))
      have ok : okD (.lst [.str t.text, .str t.text]) = true := by
        have c1 : cl (.str t.text) = true := (Bool.and_eq_true_iff.mp ts).1
        unfold okD
        have : cl (.lst [.str t.text, .str t.text]) = true := by
          show (cl (.str t.text) && (cl (.str t.text) && true)) = true
          rw [c1] <;> rfl
        rw [this]; rfl
      show (if okD (.lst [.str t.text, .str t.text]) && okD (.lst [.str t.text, .str t.text]) then R.ok (D.bl (!eqD (.lst [.str t.text, .str t.text]) (.lst [.str t.text, .str t.text]))) [o1] else .no) = _
      rw [ok]
      have : eqD (.lst [.str t.text, .str t.text]) (.lst [.str t.text, .str t.text]) = true := by
        show ((t.text == t.text) && ((t.text == t.text) && true)) = true
        simp
      rw [this]; rfl
    have ne2 : cmpF .ne (.str (pricesT fs)) (.str (pricesT fs)) [o2] = .ok (.bl false) [o2] := by
      rw [cmp_strN pricesT_signs pricesT_signs]; simp
    have pl1 : Pl t.d := ⟨Th.sh_d hgd.ok, by have := Th.w_d t; have := hgd.sz; omega, by have := Th.dep_d t; have := hgd.sz; omega⟩
    obtain ⟨a1, a2, a3⟩ := frs_pl (prices_sm (Th.rows_ok hgd.ok) hp)
    have pl2 : Pl (.tup (fs.map fr)) := ⟨a1, by show wDs _ ≤ _; omega, by show deps _ + 1 ≤ 60; omega⟩
    have r1 := repr_ok (S := [o1]) pl1
    have r2 := repr_ok (S := [o2]) pl2
    have n1 := ne_same (S := [o1]) pl1.1
    have n2 := ne_same (S := [o2]) pl2.1
    obtain ⟨o3, z2, z4, z6, z7, z8, z9, z10, e3, g3⟩ := outer62 (v0 := v0) (w3 := w3) (w5 := w5) n (lo + 1) (B + 7000) o2 (some (.int lo)) (some t.d) (some (.str t.text)) (some (.tup (fs.map fr))) (some (.str (pricesT fs))) w9 w10 (g2.le (by omega)) (by omega)
    refine ⟨o3, z2, z4, z6, z7, z8, z9, z10, ?_, by rw [show B + 7000 * (n + 1) = B + 7000 + 7000 * n by omega]; exact g3⟩
    rw [ascend, forF_cons, bodyF_name (by simp)]
    simp only [Nat.reduceAdd, List.set_cons_zero] at e1 e2 gt rg pt rp
    have w1 := wd (some (.int lo)) w3 (some t.d) w5 (some (.str t.text)) w8 w9 w10
    clear wd a1 a2 a3 pl2 pl1 hp hs hf hl
    generalize (fs.map frT).map D.str = FT at *
    generalize fs.map fr = FS at *
    generalize pricesT fs = PT at *
    generalize t.text = TT at *
    generalize shownD t.d = S1 at *
    generalize shownD (.tup FS) = S2 at *
    simp [b62_0, e1, lt, gt, ne1, rg, r1, n1, e2, rc, w1, j1, pt, ne2, rp, r2, n2]
    unfold b62_0 at e3
    exact e3
theorem k17_ev (ns : List Int) (h : ns.length ≤ 63) : ∃ S, callF FF 200 62 [scrD ns] [] = .ok (.bl true) S := by
  obtain ⟨o, e1, g1⟩ := begun_ok (k := 198) (S := []) h
  have ln : ∀ S, biF .len [scrD ns] S = .ok (.int (ns.length : Int)) S := fun S => by
    show biF .len [.scr (ns.map D.int)] S = _
    rw [biF_lenS, List.length_map]
  obtain ⟨o2, u2, u4, u6, u7, u8, u9, u10, e2, g2⟩ := outer62 (v0 := some (scrD ns)) (w3 := none) (w5 := none) (8 + if (16 : Int) < (ns.length : Int) then 16 else (ns.length : Int)).toNat 0 0 o none none none none none none none g1 (by split <;> omega)
  have e3 := tail62_ok (some (scrD ns)) (some (.ref 0)) u2 none u4 none u6 u7 u8 u9 u10 o2
  have sm : small (8 + if (16 : Int) < (ns.length : Int) then 16 else (ns.length : Int)) = true := small_of (by split <;> omega) (by split <;> omega)
  refine ⟨[o2].take 0, ?_⟩
  have hb : f62.body = .seq (.asg (.name 1) (.call 46 (.cons (.var 0) .nil))) (.seq (.for (.name 2) (.rng1 (.bin .add (.con (.int 8)) (.bi .min2 (.cons (.bi .len (.cons (.var 0) .nil)) (.cons (.con (.int 16)) .nil))))) b62_0) tail62) := rfl
  rw [call_eq F_62 rfl, hb]
  simp only [Nat.reduceAdd, List.length_nil, List.nil_append] at e1
  generalize tail62 = T at e3 ⊢
  generalize b62_0 = A at e2 ⊢
  have hn : f62.n - f62.ps = 10 := rfl
  rw [hn]
  simp [e1, ln, sm]
  rw [e2]
  simp only [rb_ok, flR_nx]
  rw [e3]
  rfl
end Pf

set_option linter.all false
set_option Elab.async false
set_option maxRecDepth 100000
set_option autoImplicit false
/-! PfVal7: texts, deep in -/
namespace Pf
open PySem PySem.Spec PyProof.Rows L2
theorem any_toPys {d : D} (hd : cl d = true) : ∀ {l : List D}, cls l = true → ((toPys l).any fun z => PyData.eqv z (toPy d)) = l.any fun x => eqD x d
  | [], _ => rfl
  | x :: xs, h => by
    have h' := Bool.and_eq_true_iff.mp (show (cl x && cls xs) = true from h)
    show (PyData.eqv (toPy x) (toPy d) || _) = (eqD x d || _)
    rw [toPy_eqv x d h'.1 hd, any_toPys hd h'.2]
section
variable {X : Cx}
theorem okT {l : List D} (h : okD (.tup l) = true) : cls l = true ∧ deps l ≤ 59 := by
  have h' := Bool.and_eq_true_iff.mp h
  exact ⟨h'.1, by have := of_decide_eq_true h'.2; have e : dep (.tup l) = deps l + 1 := rfl; omega⟩
theorem deep_room {l : List D} {d : D} (h1 : okD d = true) (hu : X.A.units + 64 < cLine) : X.A.units + 1 + min (PyData.depthAll (toPys l)) (toPy d).depth < cLine := by
  have := okD_dep h1
  rw [toPy_depth]
  omega
theorem cmpF_inD (hu : X.A.units + 64 < cLine) : OpR X (compareOp .In) (rV2 X.K (cmpF .inD)) := by
  intro pins s σ H x y v u Q I rx ry h
  obtain ⟨loc, S, x', y', sr, r1, r2, o⟩ := h
  have o' : OutV X.K loc H (match getD S y' with
    | some l => if (okD (der S x') && okD (.tup l)) = true then .ok (.bl (l.any fun z => eqD z (der S x'))) S else .no
    | none => .no) Q := o
  cases e : getD S y' with
  | none => rw [e] at o'; exact o'.elim
  | some l =>
    rw [e] at o'
    by_cases hc : (okD (der S x') && okD (.tup l)) = true
    · simp only [hc, if_true] at o'
      obtain ⟨h1, h2⟩ := Bool.and_eq_true_iff.mp hc
      obtain ⟨c1, c2⟩ := okT h2
      obtain ⟨as, q1⟩ := Dp.reads I _ x v (der_dp sr r1 (okD_cl h1)) rx
      have fin : Q (.bl ((toPys l).any fun z => PyData.eqv z (toPy (der S x')))) H := by
        rw [any_toPys (okD_cl h1) c1]; exact o'.now sr (.bl _)
      have lists : getL S y' = some l → wpAny (model X.prog X.w) X.A (compareOp .In v u) (EP X pins σ Q) X.xe s := fun e => by
        obtain ⟨a, xs, rfl, hq, ra⟩ := getL_at sr e r2
        obtain ⟨bs, q2⟩ := Dp.reads I (.list (toPys l)) _ u (.lst (SqL.of hq) (cls_dp l xs c1 ra)) ry
        exact SeqAt.in_list_reads q2 q1 (toPys_lay l c1) (toPy_lay _ (okD_cl h1)) (deep_room h1 hu) ⟨.bl _, H, I, rfl, fin⟩
      cases y' with
      | tup m =>
        cases e
        obtain ⟨bs, q2⟩ := Dp.reads I (.tuple (toPys l)) y u (cl_dp (.tup l) y c1 r2) ry
        exact SeqAt.in_tuple_reads q2 q1 (toPys_lay l c1) (toPy_lay _ (okD_cl h1)) (deep_room h1 hu) ⟨.bl _, H, I, rfl, fin⟩
      | lst m => exact lists e
      | ref n => exact lists e
      | _ => cases e
    · simp only [hc] at o'; exact o'.elim
theorem cmpF_notinD (hu : X.A.units + 64 < cLine) : OpR X (compareOp .NotIn) (rV2 X.K (cmpF .notinD)) := by
  intro pins s σ H x y v u Q I rx ry h
  obtain ⟨loc, S, x', y', sr, r1, r2, o⟩ := h
  have o' : OutV X.K loc H (match getD S y' with
    | some l => if (okD (der S x') && okD (.tup l)) = true then .ok (.bl (!l.any fun z => eqD z (der S x'))) S else .no
    | none => .no) Q := o
  cases e : getD S y' with
  | none => rw [e] at o'; exact o'.elim
  | some l =>
    rw [e] at o'
    by_cases hc : (okD (der S x') && okD (.tup l)) = true
    · simp only [hc, if_true] at o'
      obtain ⟨h1, h2⟩ := Bool.and_eq_true_iff.mp hc
      obtain ⟨c1, c2⟩ := okT h2
      obtain ⟨as, q1⟩ := Dp.reads I _ x v (der_dp sr r1 (okD_cl h1)) rx
      have fin : Q (.bl (!(toPys l).any fun z => PyData.eqv z (toPy (der S x')))) H := by
        rw [any_toPys (okD_cl h1) c1]; exact o'.now sr (.bl _)
      have lists : getL S y' = some l → wpAny (model X.prog X.w) X.A (compareOp .NotIn v u) (EP X pins σ Q) X.xe s := fun e => by
        obtain ⟨a, xs, rfl, hq, ra⟩ := getL_at sr e r2
        obtain ⟨bs, q2⟩ := Dp.reads I (.list (toPys l)) _ u (.lst (SqL.of hq) (cls_dp l xs c1 ra)) ry
        exact SeqAt.notIn_list_reads q2 q1 (toPys_lay l c1) (toPy_lay _ (okD_cl h1)) (deep_room h1 hu) ⟨.bl _, H, I, rfl, fin⟩
      cases y' with
      | tup m =>
        cases e
        obtain ⟨bs, q2⟩ := Dp.reads I (.tuple (toPys l)) y u (cl_dp (.tup l) y c1 r2) ry
        exact SeqAt.notIn_tuple_reads q2 q1 (toPys_lay l c1) (toPy_lay _ (okD_cl h1)) (deep_room h1 hu) ⟨.bl _, H, I, rfl, fin⟩
      | lst m => exact lists e
      | ref n => exact lists e
      | _ => cases e
    · simp only [hc] at o'; exact o'.elim
theorem cmpF_inS : OpR X (compareOp .In) (rV2 X.K (cmpF .inS)) := by
  intro pins s σ H x y v u Q I rx ry h
  obtain ⟨loc, S, x', y', sr, r1, r2, o⟩ := h
  cases x' with
  | str a =>
    match a, r1, o with
    | [c], r1, o =>
      cases y' with
      | str z =>
        cases r1; cases r2
        exact op_in_sign pins s σ H _ _ v u Q I rx ry ⟨c, _, rfl, rfl, o.now sr (.bl _)⟩
      | _ => exact o.elim
    | [], _, o => exact o.elim
    | _ :: _ :: _, _, o => exact o.elim
  | _ => exact o.elim
theorem cmpF_notinS : OpR X (compareOp .NotIn) (rV2 X.K (cmpF .notinS)) := by
  intro pins s σ H x y v u Q I rx ry h
  obtain ⟨loc, S, x', y', sr, r1, r2, o⟩ := h
  cases x' with
  | str a =>
    match a, r1, o with
    | [c], r1, o =>
      cases y' with
      | str z =>
        cases r1; cases r2
        exact op_notIn_sign pins s σ H _ _ v u Q I rx ry ⟨c, _, rfl, rfl, o.now sr (.bl _)⟩
      | _ => exact o.elim
    | [], _, o => exact o.elim
    | _ :: _ :: _, _, o => exact o.elim
  | _ => exact o.elim
theorem flat_rep (x : Array Nat) : ∀ (n : Nat) (acc : Array Nat), ((List.replicate n x).foldl (· ++ ·) acc).toList = acc.toList ++ (List.replicate n x.toList).flatten
  | 0, acc => by simp
  | n + 1, acc => by
    rw [List.replicate_succ, List.foldl_cons, flat_rep x n, List.replicate_succ, List.flatten_cons, Array.toList_append, List.append_assoc]
theorem opF_mulS : OpR X (binaryOp .Mult) (rV2 X.K (opF .mulS)) := by
  intro pins s σ H x y v u Q I rx ry h
  obtain ⟨loc, S, x', y', sr, r1, r2, o⟩ := h
  cases x' with
  | str a =>
    cases y' with
    | int k =>
      have o' : OutV X.K loc H (if 0 ≤ k ∧ k ≤ 1000 ∧ a.length ≤ 1000 then .ok (.str (List.replicate k.toNat a).flatten) S else .no) Q := o
      by_cases hc : 0 ≤ k ∧ k ≤ 1000 ∧ a.length ≤ 1000
      · rw [if_pos hc] at o'
        obtain ⟨k0, k1, ka⟩ := hc
        cases r1; cases r2
        obtain ⟨t, rfl⟩ := rx
        obtain ⟨t2, rfl⟩ := ry
        have al : (⟨a.toArray⟩ : Str).length = a.length := by simp [Str.length]
        refine P.mul_str (by simp; omega) (fun h1 _ => ?_) (fun h1 _ => ?_) ?_
        · rw [al]
          have : (1000 : Int) ≤ (2 ^ 63 - 1) / k := by
            rw [Int.le_ediv_iff_mul_le (by omega)]
            have := Int.mul_le_mul_of_nonneg_left k1 (show (0 : Int) ≤ 1000 by decide)
            omega
          omega
        · rw [al]
          have : a.length * k.toNat ≤ 1000 * 1000 := Nat.mul_le_mul ka (by omega)
          refine decide_eq_false ?_
          rw [sizeLine_eq]
          omega
        · by_cases h1 : k < 1
          · rw [if_pos h1]
            have : k = 0 := by omega
            subst this
            exact ⟨by decide, .str Str.empty, H, I.tok _, ⟨_, rfl⟩, o'.now sr (.str [])⟩
          · rw [if_neg h1]
            by_cases h2 : (k == 1 || (⟨a.toArray⟩ : Str).length == 0) = true
            · rw [if_pos h2]
              have e : (List.replicate k.toNat a).flatten = a := by
                rw [al, Bool.or_eq_true] at h2
                rcases h2 with h2 | h2
                · have : k = 1 := by simpa using h2
                  subst this; simp
                · have : a = [] := List.length_eq_zero_iff.mp (by simpa using h2)
                  subst this; simp
              rw [e] at o'
              exact ⟨.str _, H, I, ⟨_, rfl⟩, o'.now sr (.str a)⟩
            · rw [if_neg h2]
              have e : (⟨(List.replicate k.toNat a.toArray).foldl (· ++ ·) #[]⟩ : Str) = ⟨((List.replicate k.toNat a).flatten).toArray⟩ := by
                congr 1
                apply Array.ext'
                rw [flat_rep]
                simp
              rw [e]
              refine ⟨?_, .str ⟨((List.replicate k.toNat a).flatten).toArray⟩, H, I.tok _, ⟨_, rfl⟩, o'.now sr (.str _)⟩
              have : k.toNat * a.length ≤ 1000 * 1000 := Nat.mul_le_mul (by omega) ka
              rw [sizeLine_eq]
              simp [Str.length]
              omega
      · rw [if_neg hc] at o'; exact o'.elim
    | _ => exact o.elim
  | _ => exact o.elim
/-! str(int), int(digits) -/
theorem biF_str : CallR X (.type "str") (rVn X.K (biF .str)) := by
  intro pins s σ H vs us Q I rs h
  obtain ⟨loc, S, ds, sr, r, o⟩ := h
  match ds, r, o with
  | [d], .cons r1 .nil, o =>
    cases d with
    | int i =>
      have o' : OutV X.K loc H (if i.natAbs.log2 < 1920 then .ok (.str (decS i)) S else .no) Q := o
      by_cases hc : i.natAbs.log2 < 1920
      · rw [if_pos hc] at o'
        cases r1
        refine call_str_int pins s σ H _ us Q I rs ⟨i, rfl, hc, ?_⟩
        have e : (⟨(decS i).toArray⟩ : Str) = Str.ofString (toString i) := by unfold decS; simp
        have z := o'.now sr (.str (decS i))
        rw [e] at z
        exact z
      · rw [if_neg hc] at o'; exact o'.elim
    | _ => exact o.elim
  | [], _, o => exact o.elim
  | [_, _], _, o => exact o.elim
  | _ :: _ :: _ :: _, _, o => exact o.elim
theorem biF_intS : CallR X (.type "int") (rVn X.K (biF .intS)) := by
  intro pins s σ H vs us Q I rs h
  obtain ⟨loc, S, ds, sr, r, o⟩ := h
  match ds, r, o with
  | [d], .cons r1 .nil, o =>
    cases d with
    | str a =>
      have o' : OutV X.K loc H (if digB a = true then .ok (.int (NumText.digitsVal a : Nat)) S else .no) Q := o
      by_cases hc : digB a = true
      · rw [if_pos hc] at o'
        cases r1
        unfold digB at hc
        simp only [Bool.and_eq_true, Bool.not_eq_true', decide_eq_true_eq] at hc
        obtain ⟨⟨c1, c2⟩, c3⟩ := hc
        have e := PySem.intText_digits (x := ⟨a.toArray⟩) (fun c hc' => by
          have := List.all_eq_true.mp c1 c (by simpa using hc')
          simpa using this) (by cases a with | nil => cases c2 | cons => simp) (by simp [Str.length]; omega)
        refine call_int_str pins s σ H _ us Q I rs ⟨_, _, rfl, e, by simp [Str.length]; omega, ?_⟩
        exact o'.now sr (.int _)
      · rw [if_neg hc] at o'; exact o'.elim
    | _ => exact o.elim
  | [], _, o => exact o.elim
  | [_, _], _, o => exact o.elim
  | _ :: _ :: _ :: _, _, o => exact o.elim
/-! join, split -/
theorem asStrs_rel {K : PySem.W.Frag} {H : Hp} {loc : Loc} : ∀ {l : List D} {ys : List (List Nat)} {xs : List V}, asStrs l = some ys → RelDs K H loc l xs → xs = (ys.map fun y => (⟨y.toArray⟩ : Str)).map V.str
  | [], ys, _, e, .nil => by cases e; rfl
  | .str s :: r, ys, _, e, .cons r1 rr => by
    have e' : (asStrs r).map (s :: ·) = some ys := e
    cases q : asStrs r with
    | none => rw [q] at e'; cases e'
    | some zs =>
      rw [q] at e'
      cases e'
      cases r1
      rw [asStrs_rel q rr]
      rfl
theorem getD_at {K : PySem.W.Frag} {H : Hp} {loc : Loc} {S : Store} {d : D} {v : V} {l : List D} (s : StoreR K H loc S) (e : getD S d = some l) (r : RelD K H loc d v) : ∃ a xs, v = .ref a ∧ (SqL K H a xs ∨ SqT K H a xs) ∧ RelDs K H loc l xs := by
  refine getS_at s (S := S) (d := d) ?_ r
  cases d with
  | tup m => exact e
  | lst m => exact e
  | ref n => exact e
  | _ => cases e
theorem tl_parts (ys : List (List Nat)) : (ys.map fun y => (⟨y.toArray⟩ : Str)).map TL.tl = ys := by
  rw [List.map_map]
  have : (TL.tl ∘ fun y => (⟨y.toArray⟩ : Str)) = id := by funext y; rfl
  rw [this, List.map_id]
theorem str_tl (x : Str) : (⟨(TL.tl x).toArray⟩ : Str) = x := by
  show (⟨x.cps.toList.toArray⟩ : Str) = x
  simp
theorem mthF_join : MtR X "str.join" (rVm X.K (mthF .join)) := by
  intro pins s σ H x xs v us Q I rx rxs h
  obtain ⟨loc, S, d, ds, sr, r1, r2, o⟩ := h
  cases d with
  | str a =>
    match ds, r2, o with
    | [e], .cons re .nil, o =>
      have o' : OutV X.K loc H (match getD S e with
        | some l => match asStrs l with
          | some ys => if (ys.map (·.length)).sum + ys.length * a.length ≤ LINE then .ok (.str (TL.joinL a ys)) S else .no
          | none => .no
        | none => .no) Q := o
      cases q : getD S e with
      | none => rw [q] at o'; exact o'.elim
      | some l =>
        rw [q] at o'
        simp only at o'
        cases q2 : asStrs l with
        | none => rw [q2] at o'; exact o'.elim
        | some ys =>
          rw [q2] at o'
          simp only at o'
          by_cases hc : (ys.map (·.length)).sum + ys.length * a.length ≤ LINE
          · rw [if_pos hc] at o'
            obtain ⟨p, vs, rfl, hq, rl⟩ := getD_at sr q re
            have ev := asStrs_rel q2 rl
            subst ev
            cases r1
            refine mt_join pins s σ H _ _ v us Q I rx rxs ⟨⟨a.toArray⟩, p, ys.map fun y => (⟨y.toArray⟩ : Str), rfl, rfl, hq, ?_, ?_⟩
            · rw [List.map_map, List.length_map]
              have e1 : ((fun z : Str => z.length) ∘ fun y => (⟨y.toArray⟩ : Str)) = fun y : List Nat => y.length := by funext y; simp [Str.length]
              have e2 : (⟨a.toArray⟩ : Str).length = a.length := by simp [Str.length]
              rw [e1, e2]
              exact hc
            · have e1 : Txt.join ⟨a.toArray⟩ (ys.map fun y => (⟨y.toArray⟩ : Str)) = ⟨(TL.joinL a ys).toArray⟩ := by
                rw [TL.join_eq, ← str_tl (Str.join _ _), TL.tl_join, tl_parts] <;> rfl
              rw [e1]
              exact o'.now sr (.str _)
          · rw [if_neg hc] at o'; exact o'.elim
    | [], _, o => exact o.elim
    | _ :: _ :: _, _, o => exact o.elim
  | _ => exact o.elim
theorem rel_strs {K : PySem.W.Frag} {H : Hp} {loc : Loc} : ∀ (xs : List Str), RelDs K H loc ((xs.map TL.tl).map D.str) (xs.map V.str)
  | [] => .nil
  | x :: xs => by
    refine .cons ?_ (rel_strs xs)
    have := RelD.str (K := K) (H := H) (loc := loc) (TL.tl x)
    rw [str_tl] at this
    exact this
theorem mthF_split : MtR X "str.split" (rVm X.K (mthF .split)) := by
  intro pins s σ H x xs v us Q I rx rxs h
  obtain ⟨loc, S, d, ds, sr, r1, r2, o⟩ := h
  cases d with
  | str a =>
    match ds, r2, o with
    | [.str b], .cons re .nil, o =>
      have o' : OutV X.K loc H (if b.isEmpty = false ∧ b.all (· < 256) = true ∧ a.length + 2 ≤ LINE then .ok (.lst ((TL.spl b 0 [] a).map .str)) S else .no) Q := o
      by_cases hc : b.isEmpty = false ∧ b.all (· < 256) = true ∧ a.length + 2 ≤ LINE
      · rw [if_pos hc] at o'
        obtain ⟨c1, c2, c3⟩ := hc
        cases r1; cases re
        have hb : b ≠ [] := fun e => by rw [e] at c1; cases c1
        have hsp := TL.split_spl ⟨a.toArray⟩ ⟨b.toArray⟩ hb (TL.kind_ok (by simpa using c2))
        refine mt_split pins s σ H _ _ v us Q I rx rxs ⟨⟨a.toArray⟩, ⟨b.toArray⟩, rfl, rfl, ?_, ?_, fun p hp => ?_⟩
        · simp [Str.length, hb]
        · simp only [Str.length, List.size_toArray]; exact c3
        · refine o'.newLst sr ?_ hp
          have : TL.spl b 0 [] a = (Txt.split ⟨a.toArray⟩ ⟨b.toArray⟩).map TL.tl := hsp.symm
          rw [this]
          exact rel_strs _
      · rw [if_neg hc] at o'; exact o'.elim
    | [], _, o => exact o.elim
    | d1 :: d2 :: dr, _, o => cases d1 <;> exact o.elim
    | [.non], _, o => exact o.elim
    | [.bl _], _, o => exact o.elim
    | [.int _], _, o => exact o.elim
    | [.tup _], _, o => exact o.elim
    | [.lst _], _, o => exact o.elim
    | [.ref _], _, o => exact o.elim
    | [.scr _], _, o => exact o.elim
  | _ => exact o.elim
end
end Pf

set_option linter.all false
set_option Elab.async false
set_option maxRecDepth 100000
set_option maxHeartbeats 1000000
set_option autoImplicit false
/-! PfZip: zip of two sequences, each a list or a tuple -/
namespace Pf
open PySem PySem.Spec PyProof.Rows L2
/-- an iterator over a list (true) or a tuple -/
def ItK (kd : Bool) (g : Heap) (it l : Addr) (i : Nat) : Prop := match kd with
  | true => g.IsListIter it l i
  | false => g.IsTupleIter it l i
def SqK (kd : Bool) (g : Heap) (l : Addr) (xs : Array Value) : Prop := match kd with
  | true => g.IsList l xs
  | false => g.IsTuple l xs
theorem ItK.ext {kd : Bool} {g g' : Heap} {it l c : Addr} {i : Nat} (h : ItK kd g it l i) (e : Heap.ExtBut c g g') (n : it ≠ c) : ItK kd g' it l i := by
  cases kd with
  | true => exact Heap.IsListIter.extBut (show g.IsListIter it l i from h) e n
  | false => exact Heap.IsTupleIter.extBut (show g.IsTupleIter it l i from h) e n
theorem SqK.ext {kd : Bool} {g g' : Heap} {l c : Addr} {xs : Array Value} (h : SqK kd g l xs) (e : Heap.ExtBut c g g') (n : l ≠ c) : SqK kd g' l xs := by
  cases kd with
  | true => exact Heap.IsList.extBut (show g.IsList l xs from h) e n
  | false => exact Heap.IsTuple.extBut (show g.IsTuple l xs from h) e n
theorem ItK.at {kd : Bool} {g g' : Heap} {it l : Addr} {i : Nat} (h : ItK kd g it l i) (e : ∀ o, g.get? it = some o → g'.get? it = some o) : ItK kd g' it l i := by
  cases kd with
  | true => exact Heap.IsListIter.at (show g.IsListIter it l i from h) e
  | false => exact Heap.IsTupleIter.at (show g.IsTupleIter it l i from h) e
theorem ItK.lt {kd : Bool} {g : Heap} {it l : Addr} {i : Nat} (h : ItK kd g it l i) : ∃ o, g.get? it = some o ∧ o.data = .fields #[.ref l, .int i 0] := by
  cases kd with
  | true => obtain ⟨o, a, b, c⟩ := (show g.IsListIter it l i from h); exact ⟨o, a, c⟩
  | false => obtain ⟨o, a, b, c⟩ := (show g.IsTupleIter it l i from h); exact ⟨o, a, c⟩
section
variable {P : Program} {w : World} {A : Around} {E : Value → Shared → Prop} {s : Shared}
theorem nextK {kd : Bool} {it l : Addr} {i : Nat} {xs : Array Value} {x : Value} {Q : Value → Shared → Prop} (h1 : ItK kd s.heap it l i) (h2 : SqK kd s.heap l xs) (hx : xs[i]? = some x)
    (hQ : ∀ g, ItK kd g it l (i + 1) → Heap.SameBut it s.heap g → Q x { s with heap := g }) : wpAny (model P w) A (Builtin.SmallTypes.nextOf (.ref it)) Q E s := by
  cases kd with
  | true => exact wpAny_nextOf_list_item h1 h2 hx hQ
  | false => exact RZ.nextOf_tuple_item h1 h2 hx hQ
theorem stopK {kd : Bool} {it l : Addr} {i : Nat} {xs : Array Value} {Q : Value → Shared → Prop} (hh : A.handled = none) (h1 : ItK kd s.heap it l i) (h2 : SqK kd s.heap l xs) (hx : xs[i]? = none)
    (hE : ∀ g e, Heap.ExtBut it s.heap g → (∃ o, g.get? e = some o ∧ o.cls = .type "StopIteration") → E (.ref e) { s with heap := g }) : wpAny (model P w) A (Builtin.SmallTypes.nextOf (.ref it)) Q E s := by
  cases kd with
  | true => exact wpAny_nextOf_list_end hh h1 h2 hx hE
  | false => exact RZ.nextOf_tuple_end hh h1 h2 hx hE
end
section
variable {P : Program} {w : World} {A : Around} {E : Value → Shared → Prop} {s : Shared} {kx ky : Bool}
/-- what is not touched by a turn -/
def Zk (z t p q : Addr) (g g' : Heap) : Prop := ∀ c o, c ≠ z → c ≠ t → c ≠ p → c ≠ q → g.get? c = some o → g'.get? c = some o
theorem zipK_item {z u t p q l m : Addr} {i j : Nat} {xs ys : Array Value} {x y a b : Value} {Q : Value → Shared → Prop} (D : ZipApart z u t p q l m) (hz : IsZip s.heap z u t .none) (hu : IsPair s.heap u (.ref p) (.ref q)) (ht : IsPair s.heap t a b)
    (h1 : ItK kx s.heap p l i) (h2 : ItK ky s.heap q m j) (k1 : SqK kx s.heap l xs) (k2 : SqK ky s.heap m ys) (hx : xs[i]? = some x) (hy : ys[j]? = some y)
    (hQ : ∀ g, IsZip g z u t (rawInt s.heap.objs.size) → IsPair g t x y → ItK kx g p l (i + 1) → ItK ky g q m (j + 1) → IsPair g s.heap.objs.size x y → g.objs.size = s.heap.objs.size + 1 → Zk z t p q s.heap g → Q (.ref s.heap.objs.size) { s with heap := g }) :
    wpAny (model P w) A (Builtin.«zip.__next__» ⟨[.ref z], []⟩) (fun fin s' => ∃ v, fin = .done (.ret v) ∧ Q v s') E s := by
  show wpAny _ _ (field (.ref z) 2 >>= _) _ _ _
  refine wpAny_bind (wpAny_field hz rfl (x := .bool false) rfl ?_); show wpAny _ _ (field (.ref z) 3 >>= _) _ _ _
  refine wpAny_bind (wpAny_field hz rfl (x := .ref u) rfl (wpAny_bind (wpAny_seqItems hu rfl ?_)))
  show wpAny _ _ (Builtin.SmallTypes.ownedTupleIsFree (.ref z) >>= _) _ _ _; refine wpAny_bind ?_; unfold Builtin.SmallTypes.ownedTupleIsFree
  refine wpAny_bind (wpAny_field hz rfl (x := .none) rfl (wpAny_pure ?_)); simp only [if_true]
  refine wpAny_bind (wpAny_rule (wpAny_bind (wpAny_field hz rfl (x := .ref t) rfl ?_)))
  refine wpAny_bind (wpAny_setField_rec hz (by simp) fun g1 z1 b1 => ?_); replace z1 : IsZip g1 z u t .ellipsis := z1
  refine wpAny_bind ?_; simp only [List.zipIdx_cons, List.zipIdx_nil, List.forIn_cons, List.forIn_nil]
  refine wpAny_bind (wpAny_bind (wpAny_onRaise ?_)); show wpAny _ _ (Builtin.SmallTypes.nextOf (.ref p) >>= _) _ _ _
  refine wpAny_bind (nextK (h1.ext b1.extBut D.i1z) (k1.ext b1.extBut D.l1z) hx fun g2 n2 b2 => wpAny_pure ?_)
  have t2 : IsPair g2 t a b := b2.extBut _ _ D.TOi1 (b1.extBut _ _ D.TOz ht)
  refine wpAny_bind (wpAny_seqItems t2 rfl (wpAny_bind (wpAny_updateSeq_pair t2 fun g3 t3 b3 => ?_))); replace t3 : IsPair g3 t x b := t3
  refine wpAny_bind (wpAny_letGo (wpAny_pure (wpAny_bind (wpAny_bind (wpAny_onRaise ?_))))); show wpAny _ _ (Builtin.SmallTypes.nextOf (.ref q) >>= _) _ _ _
  refine wpAny_bind (nextK (((h2.ext b1.extBut D.i2z).ext b2.extBut D.i12.symm).ext b3.extBut D.TOi2.symm) (((k2.ext b1.extBut D.l2z).ext b2.extBut D.l2i1).ext b3.extBut D.l2TO) hy fun g4 n4 b4 => wpAny_pure ?_)
  have t4 : IsPair g4 t x b := b4.extBut _ _ D.TOi2 t3
  refine wpAny_bind (wpAny_seqItems t4 rfl (wpAny_bind (wpAny_updateSeq_pair t4 fun g5 t5 b5 => ?_))); replace t5 : IsPair g5 t x y := t5
  refine wpAny_bind (wpAny_letGo (wpAny_pure (wpAny_pure (wpAny_bind (wpAny_seqItems t5 rfl (wpAny_bind (wpAny_newTuple ?_)))))))
  have hn : g5.objs.size = s.heap.objs.size := by rw [b5.1, b4.1, b3.1, b2.1, b1.1]
  have z5 : IsZip g5 z u t .ellipsis := b5.extBut _ _ D.TOz.symm (b4.extBut _ _ D.i2z.symm (b3.extBut _ _ D.TOz.symm (b2.extBut _ _ D.i1z.symm z1)))
  have ks : Zk z t p q s.heap g5 := fun c o c1 c2 c3 c4 e => b5.extBut _ _ c2 (b4.extBut _ _ c4 (b3.extBut _ _ c2 (b2.extBut _ _ c3 (b1.extBut _ _ c1 e))))
  have p5 : ItK kx g5 p l (i + 1) := ((n2.ext b3.extBut D.TOi1.symm).ext b4.extBut D.i12).ext b5.extBut D.TOi1.symm
  have q5 : ItK ky g5 q m (j + 1) := n4.ext b5.extBut D.TOi2.symm
  have zl : z < g5.objs.size := Heap.lt_size z5
  show wpAny _ _ (Builtin.SmallTypes.ownedTupleHandOut (.ref z) (.ref g5.objs.size) >>= _) _ _ _; refine wpAny_bind ?_; unfold Builtin.SmallTypes.ownedTupleHandOut
  have z6 : IsZip (g5.push { cls := .type "tuple", data := .seq #[x, y] }) z u t .ellipsis := Heap.get?_push_of_some _ z5
  refine wpAny_bind (wpAny_setField_rec z6 (by simp) fun g7 z7 b7 => ?_); replace z7 : IsZip g7 z u t (rawInt g5.objs.size) := z7
  refine wpAny_setField_rec z7 (by simp) fun g8 z8 b8 => ?_; replace z8 : IsZip g8 z u t (rawInt g5.objs.size) := z8
  have up : ∀ c o, c ≠ z → g5.get? c = some o → g8.get? c = some o := fun c o c1 e => b8.extBut _ _ c1 (b7.extBut _ _ c1 (Heap.get?_push_of_some _ e))
  have T8 : IsPair g8 g5.objs.size x y := b8.extBut _ _ (Nat.ne_of_gt zl) (b7.extBut _ _ (Nat.ne_of_gt zl) (Heap.get?_push_size _ rfl))
  have s8 : g8.objs.size = g5.objs.size + 1 := by rw [b8.1, b7.1, Heap.size_push]
  rw [hn] at z8 T8 s8
  refine wpAny_pure ⟨_, rfl, ?_⟩; show Q (.ref g5.objs.size) _; rw [hn]
  exact hQ g8 z8 (up _ _ D.TOz t5) (p5.at fun o e => up _ o D.i1z e) (q5.at fun o e => up _ o D.i2z e) T8 s8 fun c o c1 c2 c3 c4 e => up c o c1 (ks c o c1 c2 c3 c4 e)
theorem zipK_end {z u t p q l m : Addr} {i j : Nat} {xs ys : Array Value} {a b : Value} {Q : Fin → Shared → Prop} (hh : A.handled = none) (D : ZipApart z u t p q l m) (hz : IsZip s.heap z u t .none) (hu : IsPair s.heap u (.ref p) (.ref q)) (ht : IsPair s.heap t a b)
    (h1 : ItK kx s.heap p l i) (h2 : ItK ky s.heap q m j) (k1 : SqK kx s.heap l xs) (k2 : SqK ky s.heap m ys) (he : xs[i]? = none ∨ ys[j]? = none)
    (hE : ∀ g e, Zk z t p q s.heap g → (∃ o, g.get? e = some o ∧ o.cls = .type "StopIteration") → E (.ref e) { s with heap := g }) : wpAny (model P w) A (Builtin.«zip.__next__» ⟨[.ref z], []⟩) Q E s := by
  show wpAny _ _ (field (.ref z) 2 >>= _) _ _ _
  refine wpAny_bind (wpAny_field hz rfl (x := .bool false) rfl ?_); show wpAny _ _ (field (.ref z) 3 >>= _) _ _ _
  refine wpAny_bind (wpAny_field hz rfl (x := .ref u) rfl (wpAny_bind (wpAny_seqItems hu rfl ?_)))
  show wpAny _ _ (Builtin.SmallTypes.ownedTupleIsFree (.ref z) >>= _) _ _ _; refine wpAny_bind ?_; unfold Builtin.SmallTypes.ownedTupleIsFree
  refine wpAny_bind (wpAny_field hz rfl (x := .none) rfl (wpAny_pure ?_)); simp only [if_true]
  refine wpAny_bind (wpAny_rule (wpAny_bind (wpAny_field hz rfl (x := .ref t) rfl ?_)))
  refine wpAny_bind (wpAny_setField_rec hz (by simp) fun g1 z1 b1 => ?_); replace z1 : IsZip g1 z u t .ellipsis := z1
  refine wpAny_bind ?_; simp only [List.zipIdx_cons, List.zipIdx_nil, List.forIn_cons, List.forIn_nil]
  refine wpAny_bind (wpAny_bind (wpAny_onRaise ?_)); show wpAny _ _ (Builtin.SmallTypes.nextOf (.ref p) >>= _) _ _ _
  cases hx : xs[i]? with
  | none =>
    refine wpAny_bind (stopK hh (h1.ext b1.extBut D.i1z) (k1.ext b1.extBut D.l1z) hx fun g2 e b2 ⟨oe, e1, e2⟩ => ?_)
    have z2 : IsZip g2 z u t .ellipsis := b2 _ _ D.i1z.symm z1
    have ez : e ≠ z := fun x => by subst x; rw [z2] at e1; cases e1; simp at e2
    refine wpAny_setField_rec z2 (by simp) fun g3 _ b3 => hE g3 e (fun c o c1 _ c3 _ x => b3.extBut _ _ c1 (b2 _ _ c3 (b1.extBut _ _ c1 x))) ⟨oe, b3.extBut _ _ ez e1, e2⟩
  | some x =>
    have hy : ys[j]? = none := he.resolve_left fun n => by rw [hx] at n; cases n
    refine wpAny_bind (nextK (h1.ext b1.extBut D.i1z) (k1.ext b1.extBut D.l1z) hx fun g2 n2 b2 => wpAny_pure ?_)
    have t2 : IsPair g2 t a b := b2.extBut _ _ D.TOi1 (b1.extBut _ _ D.TOz ht)
    refine wpAny_bind (wpAny_seqItems t2 rfl (wpAny_bind (wpAny_updateSeq_pair t2 fun g3 t3 b3 => ?_)))
    refine wpAny_bind (wpAny_letGo (wpAny_pure (wpAny_bind (wpAny_bind (wpAny_onRaise ?_))))); show wpAny _ _ (Builtin.SmallTypes.nextOf (.ref q) >>= _) _ _ _
    refine wpAny_bind (stopK hh (((h2.ext b1.extBut D.i2z).ext b2.extBut D.i12.symm).ext b3.extBut D.TOi2.symm) (((k2.ext b1.extBut D.l2z).ext b2.extBut D.l2i1).ext b3.extBut D.l2TO) hy fun g4 e b4 ⟨oe, e1, e2⟩ => ?_)
    have z4 : IsZip g4 z u t .ellipsis := b4 _ _ D.i2z.symm (b3.extBut _ _ D.TOz.symm (b2.extBut _ _ D.i1z.symm z1))
    have ez : e ≠ z := fun x => by subst x; rw [z4] at e1; cases e1; simp at e2
    refine wpAny_setField_rec z4 (by simp) fun g5 _ b5 => hE g5 e (fun c o c1 c2 c3 c4 x => b5.extBut _ _ c1 (b4 _ _ c4 (b3.extBut _ _ c2 (b2.extBut _ _ c3 (b1.extBut _ _ c1 x))))) ⟨oe, b5.extBut _ _ ez e1, e2⟩
theorem nextZ_item {z u t p q l m : Addr} {i j : Nat} {xs ys : Array Value} {x y a b : Value} {Q : Option Value → Shared → Prop} (D : ZipApart z u t p q l m) (hz : IsZip s.heap z u t .none) (hu : IsPair s.heap u (.ref p) (.ref q)) (ht : IsPair s.heap t a b)
    (h1 : ItK kx s.heap p l i) (h2 : ItK ky s.heap q m j) (k1 : SqK kx s.heap l xs) (k2 : SqK ky s.heap m ys) (hx : xs[i]? = some x) (hy : ys[j]? = some y)
    (hQ : ∀ g, IsZip g z u t (rawInt s.heap.objs.size) → IsPair g t x y → ItK kx g p l (i + 1) → ItK ky g q m (j + 1) → IsPair g s.heap.objs.size x y → g.objs.size = s.heap.objs.size + 1 → Zk z t p q s.heap g → Q (some (.ref s.heap.objs.size)) { s with heap := g }) :
    wpAny (model P w) A (pyNext (.ref z)) Q E s := by
  have ty : s.TypeIs (.ref z) "zip" := ⟨_, hz, rfl⟩
  unfold pyNext
  exact wpAny_bind (wpAny_attempt (wpAny_callSpecial?_slot (name := Str.ofString "__next__") ty F.slot_zip_next (wpAny_call_entry F.slot_zip_next ty F.entry_zip_next
    (zipK_item D hz hu ht h1 h2 k1 k2 hx hy fun g a1 a2 a3 a4 a5 a6 a7 => wpAny_pure (hQ g a1 a2 a3 a4 a5 a6 a7)) (F.args_zip_next_1 _))))
theorem nextZ_end {z u t p q l m : Addr} {i j : Nat} {xs ys : Array Value} {a b : Value} {Q : Option Value → Shared → Prop} (hh : A.handled = none) (D : ZipApart z u t p q l m) (hz : IsZip s.heap z u t .none) (hu : IsPair s.heap u (.ref p) (.ref q)) (ht : IsPair s.heap t a b)
    (h1 : ItK kx s.heap p l i) (h2 : ItK ky s.heap q m j) (k1 : SqK kx s.heap l xs) (k2 : SqK ky s.heap m ys) (he : xs[i]? = none ∨ ys[j]? = none) (hQ : ∀ g, Zk z t p q s.heap g → Q none { s with heap := g }) : wpAny (model P w) A (pyNext (.ref z)) Q E s := by
  have ty : s.TypeIs (.ref z) "zip" := ⟨_, hz, rfl⟩
  unfold pyNext
  refine wpAny_bind (wpAny_attempt (wpAny_callSpecial?_slot (name := Str.ofString "__next__") ty F.slot_zip_next (wpAny_call_entry F.slot_zip_next ty F.entry_zip_next (zipK_end hh D hz hu ht h1 h2 k1 k2 he fun g e hk ⟨o, o1, o2⟩ => ?_) (F.args_zip_next_1 _))))
  exact wpAny_bind (wpAny_isInstance (T := "StopIteration") (b := true) ⟨o, o1, o2⟩ isSubtype_stop (wpAny_pure (hQ _ hk)))
end
/-! the zip object is made -/
def itC (kd : Bool) : String := match kd with
  | true => "list_iterator"
  | false => "tuple_iterator"
abbrev itO (kd : Bool) (l : Addr) : Obj := { cls := .type (itC kd), data := .fields #[.ref l, .int 0 0] }
abbrev zk1 (kx : Bool) (g : Heap) (l : Addr) : Heap := g.push (itO kx l)
abbrev zk2 (kx ky : Bool) (g : Heap) (l m : Addr) : Heap := (zk1 kx g l).push (itO ky m)
abbrev zk3 (kx ky : Bool) (g : Heap) (l m : Addr) : Heap := (zk2 kx ky g l m).push { cls := .type "tuple", data := .seq #[.ref g.objs.size, .ref (zk1 kx g l).objs.size] }
abbrev zk4 (kx ky : Bool) (g : Heap) (l m : Addr) : Heap := (zk3 kx ky g l m).push { cls := .type "tuple", data := .seq #[.none, .none] }
abbrev zk5 (kx ky : Bool) (g : Heap) (l m : Addr) : Heap := (zk4 kx ky g l m).push { cls := .type "zip", data := .fields #[.none, .bool false, .bool false, .ref (zk2 kx ky g l m).objs.size, .ref (zk3 kx ky g l m).objs.size] }
theorem meets_zk (kx ky : Bool) (l m : Addr) (xs ys : Array Value) :
    Meets (Builtin.«zip.__new__» ⟨[.type "zip", .ref l, .ref m], []⟩) (fun _ R s => SqK kx s.heap l xs ∧ SqK ky s.heap m ys ∧ R (.ok (.ret (.ref (zk4 kx ky s.heap l m).objs.size))) { s with heap := zk5 kx ky s.heap l m }) :=
  .of_wp fun prog w A R s h => by
    obtain ⟨hp, g, d, tk, os⟩ := s; obtain ⟨a1, a2, h⟩ := h
    have hsub := sub_zip
    cases kx with
    | true =>
      have L1 : Heap.IsList (Shared.heap ⟨hp, g, d, tk, os⟩) l xs := a1
      cases ky with
      | true =>
        have L2 : Heap.IsList (Shared.heap ⟨hp.push { cls := .type "list_iterator", data := .fields #[.ref l, .int 0 0] }, g, d, tk, os⟩) m ys := Heap.IsList.push (show Heap.IsList hp m ys from a2) _
        wp_walk using wpAny_pyIter_list L1, wpAny_pyIter_list L2
        exact ⟨_, rfl, h⟩
      | false =>
        have L2 : Heap.IsTuple (Shared.heap ⟨hp.push { cls := .type "list_iterator", data := .fields #[.ref l, .int 0 0] }, g, d, tk, os⟩) m ys := Heap.IsTuple.push (show Heap.IsTuple hp m ys from a2) _
        wp_walk using wpAny_pyIter_list L1, wpAny_pyIter_tuple L2
        exact ⟨_, rfl, h⟩
    | false =>
      have L1 : Heap.IsTuple (Shared.heap ⟨hp, g, d, tk, os⟩) l xs := a1
      cases ky with
      | true =>
        have L2 : Heap.IsList (Shared.heap ⟨hp.push { cls := .type "tuple_iterator", data := .fields #[.ref l, .int 0 0] }, g, d, tk, os⟩) m ys := Heap.IsList.push (show Heap.IsList hp m ys from a2) _
        wp_walk using wpAny_pyIter_tuple L1, wpAny_pyIter_list L2
        exact ⟨_, rfl, h⟩
      | false =>
        have L2 : Heap.IsTuple (Shared.heap ⟨hp.push { cls := .type "tuple_iterator", data := .fields #[.ref l, .int 0 0] }, g, d, tk, os⟩) m ys := Heap.IsTuple.push (show Heap.IsTuple hp m ys from a2) _
        wp_walk using wpAny_pyIter_tuple L1, wpAny_pyIter_tuple L2
        exact ⟨_, rfl, h⟩
theorem itK_new {kd : Bool} {g : Heap} {it l : Addr} (h : g.get? it = some (itO kd l)) : ItK kd g it l 0 := by
  cases kd with
  | true => exact ⟨_, h, rfl, rfl⟩
  | false => exact ⟨_, h, rfl, rfl⟩
section
variable {P : Program} {w : World} {A : Around} {E : Value → Shared → Prop} {s : Shared} {kx ky : Bool}
theorem call_zk {l m : Addr} {xs ys : Array Value} {Q : Value → Shared → Prop} (k1 : SqK kx s.heap l xs) (k2 : SqK ky s.heap m ys)
    (h : ∀ g, IsZip g (s.heap.objs.size + 4) (s.heap.objs.size + 2) (s.heap.objs.size + 3) .none → IsPair g (s.heap.objs.size + 2) (.ref s.heap.objs.size) (.ref (s.heap.objs.size + 1)) → IsPair g (s.heap.objs.size + 3) .none .none → ItK kx g s.heap.objs.size l 0 → ItK ky g (s.heap.objs.size + 1) m 0 →
      (∀ c o, s.heap.get? c = some o → g.get? c = some o) → Q (.ref (s.heap.objs.size + 4)) { s with heap := g }) : wpAny (model P w) A (call (.type "zip") [.ref l, .ref m]) Q E s := by
  refine callType_new F.called_zip (by decide) (F.typeCall_zip_2 _ _) (F.newCall_zip_2 _ _) (fun obj => F.args_object_init_3 obj _ _) F.entry_zip_new (meets_zk kx ky l m xs ys) ⟨k1, k2, ?_⟩
  generalize hN : s.heap.objs.size = N at h
  have n1 : (zk1 kx s.heap l).objs.size = N + 1 := by rw [← hN]; exact Heap.size_push ..
  have n2 : (zk2 kx ky s.heap l m).objs.size = N + 2 := by rw [Heap.size_push, n1]
  have n3 : (zk3 kx ky s.heap l m).objs.size = N + 3 := by rw [Heap.size_push, n2]
  have n4 : (zk4 kx ky s.heap l m).objs.size = N + 4 := by rw [Heap.size_push, n3]
  have e5 : (zk5 kx ky s.heap l m).get? (zk4 kx ky s.heap l m).objs.size = some _ := Heap.get?_push_size _ rfl
  have e4 : (zk5 kx ky s.heap l m).get? (zk3 kx ky s.heap l m).objs.size = some _ := Heap.get?_push_of_some _ (Heap.get?_push_size _ rfl)
  have e3 : (zk5 kx ky s.heap l m).get? (zk2 kx ky s.heap l m).objs.size = some _ := Heap.get?_push_of_some _ (Heap.get?_push_of_some _ (Heap.get?_push_size _ rfl))
  have e2 : (zk5 kx ky s.heap l m).get? (zk1 kx s.heap l).objs.size = some _ := Heap.get?_push_of_some _ (Heap.get?_push_of_some _ (Heap.get?_push_of_some _ (Heap.get?_push_size _ rfl)))
  have e1 : (zk5 kx ky s.heap l m).get? s.heap.objs.size = some _ := Heap.get?_push_of_some _ (Heap.get?_push_of_some _ (Heap.get?_push_of_some _ (Heap.get?_push_of_some _ (Heap.get?_push_size _ rfl))))
  show _ ∧ _
  rw [n2, n3, n4] at e5; rw [n1, n2, hN] at e3; rw [n3] at e4; rw [n1] at e2; rw [hN] at e1; rw [n4]
  exact ⟨⟨_, e5, rfl⟩, h _ e5 e3 e4 (itK_new e1) (itK_new e2) fun c o x => Heap.get?_push_of_some _ (Heap.get?_push_of_some _ (Heap.get?_push_of_some _ (Heap.get?_push_of_some _ (Heap.get?_push_of_some _ x))))⟩
end
/-! over the layer -/
def SqA (kd : Bool) (K : PySem.W.Frag) (H : Hp) (a : Addr) (xs : List V) : Prop := match kd with
  | true => SqL K H a xs
  | false => SqT K H a xs
section
variable {X : Cx} {pins : List (Addr × Obj)} {σ : L2.St} {H : Hp} {s : Shared} {kd kx ky : Bool} {a b : Addr} {xs ys : List V}
theorem sq_at (I : L2.Inv X pins σ H s) (h : SqA kd X.K H a xs) : ∃ its : List Value, Vals xs its ∧ SqK kd s.heap a its.toArray ∧ a < s.heap.objs.size := by
  cases kd with
  | true => obtain ⟨its, r, p, _⟩ := I.list (show SqL X.K H a xs from h); exact ⟨its, r, p.isList, p.lt⟩
  | false => obtain ⟨its, r, p, _⟩ := I.tuple (show SqT X.K H a xs from h); obtain ⟨o, ho, _⟩ := id p; exact ⟨its, r, p, Heap.lt_size ho⟩
theorem sq_inj (I : L2.Inv X pins σ H s) (h : SqA kd X.K H a xs) (h' : SqA kd X.K H a ys) : xs = ys := by
  cases kd with
  | true => exact I.list_inj h h'
  | false => exact I.tuple_inj h h'
end
def ItzK (kx ky : Bool) (K : PySem.W.Frag) (a b : Addr) : It :=
  ⟨fun i H => ∃ (xs ys : List V) (x y : V), SqA kx K H a xs ∧ SqA ky K H b ys ∧ xs[i]? = some x ∧ ys[i]? = some y,
    fun i H v H' => ∃ T x y, v = .ref T ∧ H T = none ∧ H' = upd H T (.tup [x, y]) ∧ (∀ xs, SqA kx K H a xs → xs[i]? = some x) ∧ ∀ ys, SqA ky K H b ys → ys[i]? = some y,
    fun i H => ∃ xs ys : List V, SqA kx K H a xs ∧ SqA ky K H b ys ∧ (xs.length ≤ i ∨ ys.length ≤ i)⟩
theorem turn_zk {P : Program} {w : World} {K : PySem.W.Frag} {kx ky : Bool} {elts : List Expr} {kk : Nat} {tpos : Pos} {a b z u t p q : Addr} (D : ZipApart z u t p q a b) :
    Turn P w K (.Tuple elts kk tpos) (ItzK kx ky K a b) [z, u, t, p, q] z (fun i g => IsZip g z u t .none ∧ IsPair g u (.ref p) (.ref q) ∧ (∃ x y, IsPair g t x y) ∧ ItK kx g p a i ∧ ItK ky g q b i) where
  mem := by simp
  obj := fun i g st c hc => by
    obtain ⟨hz, hu, ⟨x, y, ht⟩, h1, h2⟩ := st
    obtain ⟨o1, e1, d1⟩ := h1.lt
    obtain ⟨o2, e2, d2⟩ := h2.lt
    rcases (by simpa using hc : c = z ∨ c = u ∨ c = t ∨ c = p ∨ c = q) with rfl | rfl | rfl | rfl | rfl
    · exact ⟨_, hz, fun v n => nomatch n⟩
    · exact ⟨_, hu, fun v n => nomatch n⟩
    · exact ⟨_, ht, fun v n => nomatch n⟩
    · exact ⟨o1, e1, fun v n => by rw [d1] at n; cases n⟩
    · exact ⟨o2, e2, fun v n => by rw [d2] at n; cases n⟩
  keep := fun i g g' st k => by
    obtain ⟨hz, hu, ⟨x, y, ht⟩, h1, h2⟩ := st
    exact ⟨k z (by simp) _ hz, k u (by simp) _ hu, ⟨x, y, k t (by simp) _ ht⟩, h1.at fun o n => k p (by simp) o n, h2.at fun o n => k q (by simp) o n⟩
  item := by
    intro X hP hw hK hc i pins s σ H E I hf st hg
    subst hP hw hK
    obtain ⟨hz, hu, ⟨x0, y0, ht⟩, h1, h2⟩ := st
    obtain ⟨xs, ys, x, y, hqx, hqy, hx, hy⟩ := hg
    obtain ⟨its, rv, k1, _⟩ := sq_at I hqx
    obtain ⟨its2, rv2, k2, _⟩ := sq_at I hqy
    obtain ⟨c, hcx, rc⟩ := rv.get hx
    obtain ⟨d, hdy, rd⟩ := rv2.get hy
    have zl : z < s.heap.objs.size := Heap.lt_size hz
    refine nextZ_item D hz hu ht h1 h2 k1 k2 (x := c) (y := d) (by simpa using hcx) (by simpa using hdy) fun g z1 t1 p1 q1 hT hsz hk => ?_
    refine ⟨_, rfl, wpAny_letOwnedTupleGo_zip (s := { s with heap := g }) z1 fun g2 z2 sb => ?_⟩
    have hT2 : g2.get? s.heap.objs.size = some { cls := .type "tuple", data := .seq #[c, d] } := (sb.2 _ (Nat.ne_of_gt zl)).trans hT
    have new : ObjOk X.prog X.w (upd H s.heap.objs.size (.tup [x, y])) g2 s.heap.objs.size (.tup [x, y]) := ⟨by show 2 ≤ sizeLine; decide, [c, d], .cons rc (.cons rd .nil), ⟨_, hT2, rfl, _, rfl⟩⟩
    have nm : ∀ e ∈ [z, u, t, p, q], ∀ f, f ∉ [z, u, t, p, q] → f ≠ e := fun e he f hf n => hf (by rw [n]; exact he)
    have I1 : L2.Inv X pins σ (upd H s.heap.objs.size (.tup [x, y])) { s with heap := g2 } :=
      I.turnedNew (t' := s.toks) (ch := [z, u, t, p, q]) (fun f o hb n => (sb.2 f (nm z (by simp) f hb)).trans (hk f o (nm z (by simp) f hb) (nm t (by simp) f hb) (nm p (by simp) f hb) (nm q (by simp) f hb) n)) hf (Nat.le_refl _) new
    refine ⟨.ref s.heap.objs.size, _, I1, rfl, ⟨_, x, y, rfl, I.hok.fresh (Nat.le_refl _), rfl, fun l hl => by rw [sq_inj I hl hqx]; exact hx, fun l hl => by rw [sq_inj I hl hqy]; exact hy⟩, ⟨z2, ?_, ⟨c, d, ?_⟩, ?_, ?_⟩, fun f hfm => ?_⟩
    · exact (sb.2 _ D.TIz).trans (hk _ _ D.TIz D.TITO D.TIi1 D.TIi2 hu)
    · exact (sb.2 _ D.TOz).trans t1
    · exact p1.at fun o n => (sb.2 _ D.i1z).trans n
    · exact q1.at fun o n => (sb.2 _ D.i2z).trans n
    · have hlt : f < s.heap.objs.size := by
        obtain ⟨o1, e1, _⟩ := h1.lt
        obtain ⟨o2, e2, _⟩ := h2.lt
        rcases (by simpa using hfm : f = z ∨ f = u ∨ f = t ∨ f = p ∨ f = q) with rfl | rfl | rfl | rfl | rfl
        · exact zl
        · exact Heap.lt_size hu
        · exact Heap.lt_size ht
        · exact Heap.lt_size e1
        · exact Heap.lt_size e2
      rw [upd_ne (Nat.ne_of_lt hlt)]
      exact (hf f hfm).1
  done := by
    intro X hP hw hK hc i pins s σ H E I hf st hg
    subst hP hw hK
    obtain ⟨hz, hu, ⟨x0, y0, ht⟩, h1, h2⟩ := st
    obtain ⟨xs, ys, hqx, hqy, hend⟩ := hg
    obtain ⟨its, rv, k1, _⟩ := sq_at I hqx
    obtain ⟨its2, rv2, k2, _⟩ := sq_at I hqy
    have n1 := rv.length
    have n2 := rv2.length
    have nm : ∀ e ∈ [z, u, t, p, q], ∀ f, f ∉ [z, u, t, p, q] → f ≠ e := fun e he f hf n => hf (by rw [n]; exact he)
    have he : its.toArray[i]? = none ∨ its2.toArray[i]? = none := hend.imp (fun n => by simp; omega) fun n => by simp; omega
    exact nextZ_end (I.ok.hd hc) D hz hu ht h1 h2 k1 k2 he fun g hk => ⟨rfl, I.turnedL (t' := s.toks) (ch := [z, u, t, p, q]) (fun f o hb n => hk f o (nm z (by simp) f hb) (nm t (by simp) f hb) (nm p (by simp) f hb) (nm q (by simp) f hb) n) hf⟩
  self := fun A i s Q E st h => wpAny_pyIter_zip st.1 h
def iZk (K : PySem.W.Frag) (ta : TA) : TI := fun σ H R => ta σ H fun vs H1 => ∃ a b xs ys kx ky, vs = [.ref a, .ref b] ∧ SqA kx K H1 a xs ∧ SqA ky K H1 b ys ∧ R (ItzK kx ky K a b) H1
theorem pi_zk {X : Cx} {e e2 : Expr} {ta : TA} {p pos tpos : Pos} {elts : List Expr} {kk : Nat} (hg : Gl X "zip") (hm : X.mg "zip" = none) (ha : PA X [e, e2] ta)
    (hs : starEach [e, e2] X.env = (false, eval e X.env) :: starEach [e2] X.env) (hpl : (backTo pos (starEach [e2] X.env)).any (·.1) = false) : PI X (.Tuple elts kk tpos) (.Call (.Name "zip" p) [e, e2] [] pos) (iZk X.K ta) := by
  refine ⟨fun pins s σ H R I h => ?_⟩
  refine Call_ (ld_blt I hg hm PyProof.Rows.boot_zip (PyProof.Rows.callWith_type1 (thn (ha.run pos pins s σ H _ I h) fun us s1 ⟨vs, H1, I1, r1, q1⟩ => ?_) hs hpl))
  obtain ⟨a, b, xs, ys, kx, ky, ex, hqx, hqy, q1⟩ := q1
  subst ex
  cases r1 with
  | cons r rr =>
    cases rr with
    | cons r' rr =>
      cases rr; cases r; cases r'
      obtain ⟨its, rv, k1, l1⟩ := sq_at I1 hqx
      obtain ⟨its2, rv2, k2, l2⟩ := sq_at I1 hqy
      refine call_zk k1 k2 fun g hz hu ht h1 h2 hk => wpAny_pyIter_zip hz ?_
      generalize hN : s1.heap.objs.size = N at *
      have fr5 : ∀ c, c ∈ [N + 4, N + 2, N + 3, N, N + 1] → FpOk X pins H1 c := fun c hcm => by
        have hle : s1.heap.objs.size ≤ c := by
          rw [hN]
          rcases (by simpa using hcm : c = N + 4 ∨ c = N + 2 ∨ c = N + 3 ∨ c = N ∨ c = N + 1) with n | n | n | n | n <;> omega
        exact I1.fpOk hle (I1.hok.fresh hle)
      exact ⟨N + 4, [N + 4, N + 2, N + 3, N, N + 1], _, _, H1, rfl, I1.kept (t' := s1.toks) hk, turn_zk (PySem.W.ktu_apart N a b l1 l2), ⟨hz, hu, ⟨_, _, ht⟩, h1, h2⟩, fr5, q1⟩
end Pf

set_option linter.all false
set_option Elab.async false
set_option maxRecDepth 100000
set_option autoImplicit false
/-! PfExp9: methods of texts, texts walked, zip -/
namespace Pf
open PySem PySem.Spec PyProof.Rows L2
section
variable {G : Gm}
theorem isS_at {K : PySem.W.Frag} {H : Hp} {loc : Loc} {d : D} {v : V} (r : RelD K H loc d v) (h : isS d = true) : ∃ a, v = .str a := by
  cases r with
  | str s => exact ⟨_, rfl⟩
  | _ => cases h
theorem se_mthS {m : Mt} {name : Str} {id : String} {o e : Expr} {eo ee : E} {apos cpos : Pos} (hm : ∀ X : Cx, MtR X id (rVm X.K (mthF m))) (slot : Slot "str" name id) (hty : typeOf (.builtin id) = pure (.type "method_descriptor"))
    (hrv : ∀ x S, recvOk m x S = isS x) (ho : SE G o eo) (he : SE G e ee) (hline : (apos.endLine == cpos.line) = true) : SE G (.Call (.Attribute o name apos) [e] [] cpos) (.mth m eo (.cons ee .nil)) := by
  refine se_val (fun X W c => ⟨fun pins s σ H Q I ⟨ρ, S, loc, er, sr, h⟩ => ?_⟩) (fun _ _ => rfl) plain_call
  refine (pe_m1 slot hty (hm X) (ho.hv X W c) (he.hv X W c) (he.pl.star _ _) (ho.pl.base _ _) hline).run pins s σ H Q I ⟨ρ, S, loc, er, sr, ?_⟩
  rw [ev] at h
  refine Out.bind h fun d S1 loc1 H1 v e1 le1 sr1 r1 o1 => ?_
  obtain ⟨hr, o2⟩ := (Out.get o1).need
  rw [hrv] at hr
  refine ⟨isS_at r1 hr, ρ, S1, loc1, er.mono le1, sr1, ?_⟩
  have o3 : Out X.K G.C (fun c d H' => W c d σ H') (RD X.K) loc1 H1 ((ev G.cl ee ρ >>= fun y => mthF m d [y]) S1) Q := by
    have e2 : (evs G.cl (.cons ee .nil) ρ >>= fun xs => mthF m d xs) = (ev G.cl ee ρ >>= fun y => mthF m d [y]) := by
      funext S
      rw [evs]
      show M.bind (M.bind (ev G.cl ee ρ) _) _ S = M.bind (ev G.cl ee ρ) _ S
      unfold M.bind
      cases ev G.cl ee ρ S <;> rfl
    rw [← e2]; exact o2
  refine Out.bind o3 fun y S2 loc2 H2 u e2 le2 sr2 r2 o4 => ⟨loc2, S2, d, [y], sr2, r1.mono le2, .cons r2 .nil, ?_⟩
  cases q : mthF m d [y] S2 with
  | ok z S2 => rw [q] at o4; exact o4
  | exc c fs S2 => exact absurd q (mthF_nx _ _ _ _ _ _ _)
  | no => rw [q] at o4; exact o4.elim
/-! a text, sign by sign -/
theorem wk_sgn {K : PySem.W.Frag} {H0 : Hp} {loc0 : Loc} (s : List Nat) : Wk K (Its ⟨s.toArray⟩) (s.map fun c => .str [c]) loc0 H0 where
  go := fun loc H S i le _ hi => by
    show i < s.toArray.size
    simpa using hi
  stop := fun loc H S i le _ hi => by
    show s.toArray.size ≤ i
    simpa using hi
  yld := fun loc H S i x H' le sr hi y => by
    obtain ⟨rfl, c, hc, rfl⟩ := y
    refine ⟨.str [c], ?_, Le.refl, sr, .str [c]⟩
    rw [List.getElem?_map]
    have : s[i]? = some c := by simpa using hc
    rw [this] <;> rfl
theorem si_sgn {tg a : Expr} {ea : E} (ha : SE G a ea) : SI G tg a (.sgn ea) := by
  refine ⟨fun X W c => ⟨fun pins s σ H R I ⟨ρ, S, loc, er, sr, o⟩ => ?_⟩, ha.pl.fold⟩
  refine (pi_str (ha.hv X W c)).run pins s σ H R I ⟨ρ, S, loc, er, sr, ?_⟩
  rw [evI] at o
  refine Out.bind o fun d S' loc' H' v e' le sr' r o' => ?_
  cases d with
  | str z =>
    cases r
    by_cases hz : z.length ≤ LINE
    · simp only [hz, if_true] at o'
      exact ⟨_, rfl, Out.pure o' sr' (wk_sgn z)⟩
    · simp only [hz, if_false] at o'; exact o'.elim
  | _ => exact o'.elim
/-! zip -/
theorem zipD_len : ∀ (l r : List D), (zipD l r).length = min l.length r.length
  | [], r => by simp [zipD]
  | _ :: _, [] => by simp [zipD]
  | x :: l, y :: r => by rw [zipD, List.length_cons, zipD_len l r, List.length_cons, List.length_cons]; omega
theorem zipD_get : ∀ (l r : List D) (i : Nat) (x y : D), l[i]? = some x → r[i]? = some y → (zipD l r)[i]? = some (.tup [x, y])
  | [], _, i, _, _, h, _ => by simp at h
  | _ :: _, [], i, _, _, _, h => by simp at h
  | a :: l, b :: r, 0, x, y, h1, h2 => by simp at h1 h2; subst h1 h2; rfl
  | a :: l, b :: r, i + 1, x, y, h1, h2 => by
    rw [zipD, List.getElem?_cons_succ]
    exact zipD_get l r i x y (by simpa using h1) (by simpa using h2)
theorem wk_zip {K : PySem.W.Frag} {kx ky : Bool} {H0 : Hp} {loc0 : Loc} {a b : Addr} {xs ys : List V} {l r : List D} (h : ∀ H loc, LeD loc0 H0 loc H → SqA kx K H a xs) (h2 : ∀ H loc, LeD loc0 H0 loc H → SqA ky K H b ys) (rl : RelDs K H0 loc0 l xs) (rr : RelDs K H0 loc0 r ys) : Wk K (ItzK kx ky K a b) (zipD l r) loc0 H0 where
  go := fun loc H S i le _ hi => by
    rw [zipD_len] at hi
    have e1 := rl.length
    have e2 := rr.length
    exact ⟨xs, ys, xs[i]'(by omega), ys[i]'(by omega), h H loc le, h2 H loc le, by simp, by simp⟩
  stop := fun loc H S i le _ hi => by
    rw [zipD_len] at hi
    have e1 := rl.length
    have e2 := rr.length
    exact ⟨xs, ys, h H loc le, h2 H loc le, by omega⟩
  yld := fun loc H S i x H' le sr hi y => by
    obtain ⟨T, u, v, rfl, hT, rfl, f1, f2⟩ := y
    rw [zipD_len] at hi
    have hx := f1 xs (h _ loc le)
    have hy := f2 ys (h2 _ loc le)
    obtain ⟨v1, e1, rv1⟩ := rl.get (i := i) (d := l[i]'(by omega)) (by simp)
    obtain ⟨v2, e2, rv2⟩ := rr.get (i := i) (d := r[i]'(by omega)) (by simp)
    rw [hx] at e1
    rw [hy] at e2
    cases e1
    cases e2
    have hn := sr.fresh hT
    have le2 : Le loc H loc (upd H T (.tup [u, v])) := Le.laid hT hn
    exact ⟨_, zipD_get l r i _ _ (by simp) (by simp), le2, sr.laid hT, .tup ⟨.inl upd_same, hn⟩ (.cons ((rv1.monoD le).mono le2) (.cons ((rv2.monoD le).mono le2) .nil))⟩
theorem getF_later {K : PySem.W.Frag} {H : Hp} {loc : Loc} {d : D} {v : V} {l : List D} (e : getF d = some l) (r : RelD K H loc d v) : ∃ kd a xs, v = .ref a ∧ RelDs K H loc l xs ∧ ∀ H' loc', LeD loc H loc' H' → SqA kd K H' a xs := by
  rcases getF_cases e with rfl | hd
  · obtain ⟨a, xs, rfl, rs, hl⟩ := r.tupLater
    exact ⟨false, a, xs, rfl, rs, hl⟩
  · obtain ⟨a, xs, rfl, rs, hl⟩ := RelD.lstLater hd r
    exact ⟨true, a, xs, rfl, rs, hl⟩
theorem si_zip {a b : Expr} {ea eb : E} {p pos tpos : Pos} {elts : List Expr} {kk : Nat} (hb : ("zip" : Str) ∈ G.bi) (hg : GlS G "zip") (ha : SE G a ea) (hb' : SE G b eb) : SI G (.Tuple elts kk tpos) (.Call (.Name "zip" p) [a, b] [] pos) (.zip ea eb) := by
  refine ⟨fun X W c => ⟨fun pins s σ H R I ⟨ρ, S, loc, er, sr, o⟩ => ?_⟩, fun _ _ => rfl⟩
  have hs : starEach [a, b] X.env = (false, eval a X.env) :: starEach [b] X.env := ha.pl.star _ _
  refine (pi_zk (c.gl hg) (c.bis _ hb) (pa_cons (ha.hv X W c) (pa_cons (hb'.hv X W c) pa_nil (hb'.pl.star _ _)) (ha.pl.star _ _)) hs (by rw [hb'.pl.star] <;> rfl)).run pins s σ H R I ⟨ρ, S, loc, er, sr, ?_⟩
  rw [evI] at o
  refine Out.bind o fun d S1 loc1 H1 v e1 le1 sr1 r1 o1 => ⟨ρ, S1, loc1, er.mono le1, sr1, ?_⟩
  refine Out.bind o1 fun d2 S2 loc2 H2 v2 e2 le2 sr2 r2 o2 => ?_
  cases q1 : getF d with
  | none => rw [q1] at o2; exact o2.elim
  | some l =>
    cases q2 : getF d2 with
    | none => rw [q1, q2] at o2; exact o2.elim
    | some m =>
      rw [q1, q2] at o2
      obtain ⟨kx, x, xs, rfl, rs, hl⟩ := getF_later q1 (r1.mono le2)
      obtain ⟨ky, y, ys, rfl, rt, hm⟩ := getF_later q2 r2
      exact ⟨x, y, xs, ys, kx, ky, rfl, hl _ _ Le.refl.d, hm _ _ Le.refl.d, Out.pure o2 sr2 (wk_zip hl hm rs rt)⟩
end
end Pf

set_option linter.all false
set_option Elab.async false
set_option maxRecDepth 100000
set_option autoImplicit false
/-! PfCk: does the small AST tell the text? -/
namespace Pf
open PySem PySem.Spec PyProof.Rows L2
structure Gs where
  N : List Str
  sc : Scope
  fn : List (Str × Nat)
  con : List (Str × D)
  bi : List Str
  fc : Str → Bool
def Gm.gs (G : Gm) : Gs := ⟨G.N, G.sc, G.fn, G.con, G.bi, G.fc⟩
def Gs.blk (g : Gs) (scope : Scope) : Gs := { g with sc := relS scope g.sc, fc := fun x => scope.names.lookup x == some .cell }
theorem gs_blk {G : Gm} {scope : Scope} : (G.blk scope).gs = G.gs.blk scope := rfl
mutual
def beqD : D → D → Bool
  | .non, .non => true
  | .bl a, .bl b => a == b
  | .int a, .int b => decide (a = b)
  | .str a, .str b => decide (a = b)
  | .tup a, .tup b => beqDs a b
  | .lst a, .lst b => beqDs a b
  | _, _ => false
def beqDs : List D → List D → Bool
  | [], [] => true
  | x :: xs, y :: ys => beqD x y && beqDs xs ys
  | _, _ => false
end
mutual
theorem beqD_ok : ∀ {a b : D}, beqD a b = true → a = b
  | .non, .non, _ => rfl
  | .bl a, .bl b, h => by rw [eq_of_beq (show (a == b) = true from h)]
  | .int a, .int b, h => by rw [of_decide_eq_true (show decide (a = b) = true from h)]
  | .str a, .str b, h => by rw [of_decide_eq_true (show decide (a = b) = true from h)]
  | .tup a, .tup b, h => by rw [beqDs_ok (show beqDs a b = true from h)]
  | .lst a, .lst b, h => by rw [beqDs_ok (show beqDs a b = true from h)]
theorem beqDs_ok : ∀ {a b : List D}, beqDs a b = true → a = b
  | [], [], _ => rfl
  | x :: xs, y :: ys, h => by
    have h' := Bool.and_eq_true_iff.mp (show (beqD x y && beqDs xs ys) = true from h)
    rw [beqD_ok h'.1, beqDs_ok h'.2]
end
def visB (g : Gs) (x : Str) : Bool := decide (g.sc.names.lookup x = some .local) || decide (g.sc.names.lookup x = some .cell) || decide (g.sc.names.lookup x = some .free)
theorem visB_ok {g : Gs} {x : Str} (h : visB g x = true) : Vis g.sc x := by
  unfold visB at h
  simp only [Bool.or_eq_true, decide_eq_true_eq] at h
  rcases h with (h | h) | h
  · exact .inl h
  · exact .inr (.inl h)
  · exact .inr (.inr h)
def locB (g : Gs) (x : Str) : Bool := (decide (g.sc.names.lookup x = some .local) || decide (g.sc.names.lookup x = some .cell)) && (g.fc x || decide (g.sc.names.lookup x = some .local))
theorem locB_ok {G : Gm} {x : Str} (h : locB G.gs x = true) : L2.Loc G.sc x ∧ (G.fc x = true ∨ G.sc.names.lookup x = some .local) := by
  unfold locB at h
  simp only [Bool.and_eq_true, Bool.or_eq_true, decide_eq_true_eq] at h
  exact ⟨h.1, h.2⟩
def glB (g : Gs) (x : Str) : Bool := decide (g.sc.names.lookup x = some .globalImplicit) && !(x == ("__debug__" : Str))
def opB : Operator → Op → Bool
  | .Add, .add => true
  | .Sub, .sub => true
  | .Mult, .mul => true
  | .FloorDiv, .fdiv => true
  | .Mod, .mod => true
  | .Pow, .pow => true
  | .Mult, .mulS => true
  | _, _ => false
theorem opB_ok {o : Operator} {p : Op} (h : opB o p = true) : ∀ X : Cx, OpR X (binaryOp o) (rV2 X.K (opF p)) := by
  cases o <;> cases p <;> first | exact absurd h Bool.false_ne_true | skip
  · exact fun X => opF_add
  · exact fun X => opF_sub
  · exact fun X => opF_mul
  · exact fun X => opF_mulS
  · exact fun X => opF_mod
  · exact fun X => opF_pow
  · exact fun X => opF_fdiv
def opLB : Operator → Op → Bool
  | .Add, .add => true
  | .Mult, .mul => true
  | _, _ => false
theorem opLB_ok {o : Operator} {p : Op} (h : opLB o p = true) : ∀ X : Cx, OpR X (binaryOp o) (rV2 X.K (opL p)) := by
  cases o <;> cases p <;> first | exact absurd h Bool.false_ne_true | skip
  · exact fun X => opL_add
  · exact fun X => opL_mul
def copB : CmpOp → Cop → Bool
  | .Eq, .eq => true
  | .NotEq, .ne => true
  | .Lt, .lt => true
  | .LtE, .le => true
  | .Gt, .gt => true
  | .GtE, .ge => true
  | .In, .isin => true
  | .NotIn, .notin => true
  | .Is, .is => true
  | .IsNot, .isnot => true
  | .In, .inS => true
  | .NotIn, .notinS => true
  | .In, .inD => true
  | .NotIn, .notinD => true
  | _, _ => false
theorem copB_ok {o : CmpOp} {p : Cop} (h : copB o p = true) : ∀ X : Cx, X.A.units + 64 < cLine → OpR X (compareOp o) (rV2 X.K (cmpF p)) := by
  cases o <;> cases p <;> first | exact absurd h Bool.false_ne_true | skip
  · exact fun X u => cmpF_eq u
  · exact fun X u => cmpF_ne u
  · exact fun X u => cmpF_lt
  · exact fun X u => cmpF_le
  · exact fun X u => cmpF_gt
  · exact fun X u => cmpF_ge
  · exact fun X u => cmpF_is
  · exact fun X u => cmpF_isnot
  · exact fun X u => cmpF_in
  · exact fun X u => cmpF_inS
  · exact fun X u => cmpF_inD u
  · exact fun X u => cmpF_notin
  · exact fun X u => cmpF_notinS
  · exact fun X u => cmpF_notinD u
/-- built-ins by name -/
def biName : Bi → Option (Bool × String)
  | .len => some (true, "len")
  | .int => some (false, "int")
  | .list _ => some (false, "list")
  | .tuple => some (false, "tuple")
  | .abs => some (true, "abs")
  | .max2 => some (true, "max")
  | .min2 => some (true, "min")
  | .all => some (true, "all")
  | .any => some (true, "any")
  | .repr => some (true, "repr")
  | .str => some (false, "str")
  | .intS => some (false, "int")
  | _ => none
theorem biB_ok {G : Gm} {b : Bi} {s : String} (h : biName b = some (true, s)) : ∀ X W, CxOk G W X → CallR X (.builtin s) (rVn X.K (biF b)) := by
  cases b <;> cases h
  · exact fun X W c => biF_len
  · exact fun X W c => biF_abs
  · exact fun X W c => biF_max2 c.calm
  · exact fun X W c => biF_min2 c.calm
  · exact fun X W c => biF_all c.calm
  · exact fun X W c => biF_any c.calm
  · exact fun X W c => biF_repr c.un c.guards
theorem biT_ok {G : Gm} {b : Bi} {s : String} (h : biName b = some (false, s)) : ∀ X W, CxOk G W X → CallR X (.type s) (rVn X.K (biF b)) := by
  cases b <;> cases h
  · exact fun X W c => biF_int
  · exact fun X W c => biF_list
  · exact fun X W c => biF_tuple
  · exact fun X W c => biF_str
  · exact fun X W c => biF_intS
theorem biName_boot {b : Bi} {t : Bool} {s : String} (h : biName b = some (t, s)) : bootBuiltins (Str.ofString s) = some (if t then .builtin s else .type s) ∧ (Str.ofString s) ≠ ("__name__" : Str) ∧ ((Str.ofString s) == ("__debug__" : Str)) = false := by
  cases b <;> cases h <;> exact ⟨by decide +kernel, by decide +kernel, by decide +kernel⟩
/-- shapes that are plain -/
def plainB : Expr → Bool
  | .Name .. => true
  | .Constant .. => true
  | .Call _ (_ :: _) _ _ => true
  | .BinOp .. => true
  | .UnaryOp .. => true
  | .BoolOp .. => true
  | .Compare .. => true
  | .Subscript .. => true
  | .IfExp .. => true
  | .ListComp .. => true
  | _ => false
theorem plainB_ok {e : Expr} (h : plainB e = true) : Plain e := by
  cases e with
  | Call f es ks pos =>
    cases es with
    | nil => cases h
    | cons a r => exact plain_call
  | Name => exact plain_name
  | Constant => exact plain_con
  | UnaryOp => exact plain_un
  | BoolOp => exact plain_bool
  | _ => first | (exact ⟨fun _ _ => rfl, fun _ _ => rfl, fun _ _ => rfl, fun _ _ => rfl, fun _ => rfl⟩) | cases h
/-- shapes that are tested by their value -/
def valB : Expr → Bool
  | .Name .. => true
  | .Call .. => true
  | .Subscript .. => true
  | .ListComp .. => true
  | .List .. => true
  | .BinOp .. => true
  | _ => false
theorem valB_ok {a : Expr} (h : valB a = true) : ∀ env whole, isTrue a env whole = (do let v ← whole; standAt a.pos; holding [v] (truthy v)) := by
  intro env whole
  cases a <;> first | rfl | cases h
def mtName : Mt → Option String
  | .append => some "append"
  | .extend => some "extend"
  | .pop => some "pop"
  | .join => some "join"
  | .split => some "split"
  | _ => none
/-- how many arguments a text's method has -/
def mtOne : Mt → Nat → Bool
  | .join, n => n == 1
  | .split, n => n == 1
  | _, _ => true
def tyB (t : Ty) (x : Str) : Bool := decide (x = Str.ofString (tyName t))
theorem tyB_ok {t : Ty} {x : Str} (h : tyB t x = true) : bootBuiltins x = some (.type (tyName t)) ∧ x ≠ ("__name__" : Str) ∧ (x == ("__debug__" : Str)) = false := by
  have e : x = Str.ofString (tyName t) := of_decide_eq_true h
  subst e
  cases t <;> exact ⟨by decide +kernel, by decide +kernel, by decide +kernel⟩
/-- own names of a block, from the slots -/
def ownOf (N : List Str) : List Nat → List (Str × Nat)
  | [] => []
  | i :: r => match N[i]? with
    | some x => (x, i) :: ownOf N r
    | none => ownOf N r
mutual
def ckP (g : Gs) : Expr → Pt → Bool
  | e, .name i => match e with
    | .Name x _ => decide (g.N[i]? = some x) && locB g x
    | _ => false
  | e, .tup ps => match e with
    | .Tuple es _ _ => ckPs g es ps
    | _ => false
def ckPs (g : Gs) : List Expr → List Pt → Bool
  | [], ps => match ps with
    | [] => true
    | _ => false
  | e :: es, ps => match ps with
    | p :: ps => ckP g e p && ckPs g es ps
    | _ => false
end
end Pf

set_option linter.all false
set_option Elab.async false
set_option maxRecDepth 100000
set_option maxHeartbeats 1000000
set_option autoImplicit false
namespace Pf
open PySem PySem.Spec PyProof.Rows L2
mutual
def ckE : Nat → Gs → Expr → E → Bool
  | 0, _, _, _ => false
  | n + 1, g, pe, e => match e with
    | .frz a => valB pe && ckE n g pe a
    | .bad => plainB pe
    | .con d => match pe with
      | .Constant (.int i) _ _ => beqD d (.int i)
      | .Constant (.bool b) _ _ => beqD d (.bl b)
      | .Constant .none _ _ => beqD d .non
      | .Constant (.str x) _ _ => beqD d (.str x.cps.toList)
      | .Name x _ => (g.con.any fun p => decide (p.1 = x) && beqD p.2 d) && glB g x
      | _ => false
    | .var i => match pe with
      | .Name x _ => decide (g.N[i]? = some x) && visB g x && !(x == ("__debug__" : Str)) && !(x == ("__classdict__" : Str))
      | _ => false
    | .bin op a b => match pe with
      | .BinOp pa o pb _ => opB o op && (ckE n g pa a && ckE n g pb b)
      | _ => false
    | .binL op a b => match pe with
      | .BinOp pa o pb _ => opLB o op && (ckE n g pa a && ckE n g pb b)
      | _ => false
    | .neg a => match pe with
      | .UnaryOp .USub pa _ => ckE n g pa a
      | _ => false
    | .not a => match pe with
      | .UnaryOp .Not pa _ => ckE n g pa a
      | _ => false
    | .cmp op a b => match pe with
      | .Compare pa [o] [pb] _ => copB o op && (ckE n g pa a && ckE n g pb b)
      | _ => false
    | .cmp2 o1 o2 a b c => match pe with
      | .Compare pa [q1, q2] [pb, pc] _ => copB q1 o1 && copB q2 o2 && (ckE n g pa a && (ckE n g pb b && ckE n g pc c))
      | _ => false
    | .and a b => match pe with
      | .BoolOp .And es _ => ckAnd n g es (.and a b)
      | _ => false
    | .or a b => match pe with
      | .BoolOp .Or es _ => ckOr n g es (.or a b)
      | _ => false
    | .ite c a b => match pe with
      | .IfExp pc pa pb _ => ckE n g pc c && (ckE n g pa a && ckE n g pb b)
      | _ => false
    | .tup es => match pe with
      | .Tuple ps _ _ => ckA n g ps es
      | _ => false
    | .lst m es => match pe with
      | .List ps _ => ckA n g ps es
      | _ => false
    | .call f es => match pe with
      | .Call (.Name x _) ps [] _ => decide ((x, f) ∈ g.fn) && glB g x && !(x == ("super" : Str)) && ckX n g ps es
      | _ => false
    | .bi b es => match pe with
      | .Call (.Name x _) ps [] _ => (match biName b with | some (_, s) => decide (x = Str.ofString s) | none => false) && decide (x ∈ g.bi) && glB g x && !ps.isEmpty && ckX n g ps es
      | _ => false
    | .mth m o es => match pe with
      | .Call (.Attribute po name apos) ps [] cpos => (match mtName m with | some s => decide (name = Str.ofString s) | none => false) && (apos.endLine == cpos.line) && decide (ps.length < 30) && mtOne m ps.length && ckE n g po o && ckX n g ps es
      | _ => false
    | .idx a i => match pe with
      | .Subscript pa pb _ => ckE n g pa a && ckE n g pb i
      | _ => false
    | .sli a lo hi => match pe with
      | .Subscript pa (.Slice plo phi none _) _ => ckE n g pa a && (ckO n g plo lo && ckO n g phi hi)
      | _ => false
    | .rev m a => match pe with
      | .Subscript pa (.Slice none none (some (.UnaryOp .USub (.Constant (.int 1) _ _) _)) _) _ => ckE n g pa a
      | _ => false
    | .isi a t => match pe with
      | .Call (.Name f _) [pa, .Name x _] [] _ => decide (f = ("isinstance" : Str)) && decide (f ∈ g.bi) && glB g f && decide (x ∈ g.bi) && glB g x && tyB t x && ckE n g pa a
      | _ => false
    | .dic ks vs => match pe with
      | .Dict keys vals _ => ckD n g keys vals ks vs && decide (keys.length ≤ 15)
      | _ => false
    | .comp m own p src c elt => match pe with
      | .ListComp pelt [⟨tg, iter, ifs, 0⟩] scope _ => ckI n g tg iter src && blkC g.N g.sc scope (ownOf g.N own) && decide ((ownOf g.N own).map (·.2) = own) && decide (∀ i ∈ slots p, i ∈ (ownOf g.N own).map (·.2)) && ckP (g.blk scope) tg p && ckC n (g.blk scope) ifs c && ckE n (g.blk scope) pelt elt
      | _ => false
    | .lrng m a => match pe with
      | .Call (.Name f _) [.Call (.Name r _) [pa] [] _] [] _ => decide (f = ("list" : Str)) && decide (r = ("range" : Str)) && decide (f ∈ g.bi) && glB g f && decide (r ∈ g.bi) && glB g r && ckE n g pa a
      | _ => false
    | _ => false
def ckAnd : Nat → Gs → List Expr → E → Bool
  | 0, _, _, _ => false
  | n + 1, g, es, e => match es with
    | [] => false
    | [a] => ckE n g a e
    | a :: b :: r => match e with
      | .and x y => ckE n g a x && ckAnd n g (b :: r) y
      | _ => false
def ckOr : Nat → Gs → List Expr → E → Bool
  | 0, _, _, _ => false
  | n + 1, g, es, e => match es with
    | [] => false
    | [a] => ckE n g a e
    | a :: b :: r => match e with
      | .or x y => ckE n g a x && ckOr n g (b :: r) y
      | _ => false
/-- items, with stars -/
def ckA : Nat → Gs → List Expr → Es → Bool
  | 0, _, _, _ => false
  | n + 1, g, ps, es => match ps with
    | [] => match es with
      | .nil => true
      | _ => false
    | p :: r => match es with
      | .nil => false
      | .cons e t => ckE n g p e && ckA n g r t
      | .star e t => match p with
        | .Starred a _ => ckE n g a e && ckA n g r t
        | _ => false
/-- items, no star -/
def ckX : Nat → Gs → List Expr → Es → Bool
  | 0, _, _, _ => false
  | n + 1, g, ps, es => match ps with
    | [] => match es with
      | .nil => true
      | _ => false
    | p :: r => match es with
      | .cons e t => ckE n g p e && ckX n g r t
      | _ => false
def ckO : Nat → Gs → Option Expr → Oe → Bool
  | 0, _, _, _ => false
  | n + 1, g, p, e => match p with
    | none => match e with
      | .none => true
      | _ => false
    | some a => match e with
      | .some x => ckE n g a x
      | _ => false
def ckC : Nat → Gs → List Expr → Oe → Bool
  | 0, _, _, _ => false
  | n + 1, g, p, e => match p with
    | [] => match e with
      | .none => true
      | _ => false
    | [a] => match e with
      | .some x => ckE n g a x
      | _ => false
    | _ => false
def ckD : Nat → Gs → List (Option Expr) → List Expr → List D → Es → Bool
  | 0, _, _, _, _, _ => false
  | n + 1, g, keys, vals, ks, es => match keys with
    | [] => match vals with
      | [] => match ks with
        | [] => match es with
          | .nil => true
          | _ => false
        | _ => false
      | _ => false
    | none :: _ => false
    | some k :: keys => match vals with
      | [] => false
      | v :: vals => match ks with
        | [] => false
        | d :: ks => match es with
          | .cons e es => keyOk d && ckE n g k (.con d) && ckE n g v e && ckD n g keys vals ks es
          | _ => false
def ckI : Nat → Gs → Expr → Expr → Sc → Bool
  | 0, _, _, _, _ => false
  | n + 1, g, tg, pe, s => match s with
    | .seq e => ckE n g pe e
    | .enum e => match tg with
      | .Tuple _ _ _ => match pe with
        | .Call (.Name f _) [pa] [] _ => decide (f = ("enumerate" : Str)) && decide (f ∈ g.bi) && glB g f && ckE n g pa e
        | _ => false
      | _ => false
    | .sgn e => ckE n g pe e
    | .zip a b => match tg with
      | .Tuple _ _ _ => match pe with
        | .Call (.Name f _) [pa, pb] [] _ => decide (f = ("zip" : Str)) && decide (f ∈ g.bi) && glB g f && ckE n g pa a && ckE n g pb b
        | _ => false
      | _ => false
    | .rng1 e => match pe with
      | .Call (.Name f _) [pa] [] _ => decide (f = ("range" : Str)) && decide (f ∈ g.bi) && glB g f && ckE n g pa e
      | _ => false
    | .rng2 a b => match pe with
      | .Call (.Name f _) [pa, pb] [] _ => decide (f = ("range" : Str)) && decide (f ∈ g.bi) && glB g f && ckE n g pa a && ckE n g pb b
      | _ => false
    | .rng3 a b => match pe with
      | .Call (.Name f _) [pa, pb, .UnaryOp .USub (.Constant (.int 1) _ _) _] [] _ => decide (f = ("range" : Str)) && decide (f ∈ g.bi) && glB g f && ckE n g pa a && ckE n g pb b
      | _ => false
end
end Pf

set_option linter.all false
set_option Elab.async false
set_option maxRecDepth 100000
set_option maxHeartbeats 1000000
set_option autoImplicit false
namespace Pf
open PySem PySem.Spec PyProof.Rows L2
mutual
theorem ckP_ok {G : Gm} : ∀ {e : Expr} {p : Pt}, ckP G.gs e p = true → SG G e p
  | e, .name i, h => by
    unfold ckP at h
    split at h
    · rename_i x pos
      have h' := Bool.and_eq_true_iff.mp h
      obtain ⟨l1, l2⟩ := locB_ok h'.2
      exact sg_name (of_decide_eq_true h'.1) l1 l2
    · cases h
  | e, .tup ps, h => by
    unfold ckP at h
    split at h
    · exact sg_tup (ckPs_ok h)
    · cases h
theorem ckPs_ok {G : Gm} : ∀ {es : List Expr} {ps : List Pt}, ckPs G.gs es ps = true → SGs G es ps
  | [], ps, h => by
    cases ps with
    | nil => exact sgs_nil
    | cons _ _ => cases h
  | e :: es, ps, h => by
    cases ps with
    | nil => cases h
    | cons p ps =>
      have h' := Bool.and_eq_true_iff.mp (show (ckP G.gs e p && ckPs G.gs es ps) = true from h)
      exact sgs_cons (ckP_ok h'.1) (ckPs_ok h'.2)
end
structure OkN (n : Nat) : Prop where
  e : ∀ {G : Gm} {pe : Expr} {e : E}, ckE n G.gs pe e = true → SE G pe e
  an : ∀ {G : Gm} {es : List Expr} {e : E}, ckAnd n G.gs es e = true → SB G .And es e
  or : ∀ {G : Gm} {es : List Expr} {e : E}, ckOr n G.gs es e = true → SB G .Or es e
  a : ∀ {G : Gm} {ps : List Expr} {es : Es}, ckA n G.gs ps es = true → SA G ps es
  x : ∀ {G : Gm} {ps : List Expr} {es : Es}, ckX n G.gs ps es = true → SA G ps es ∧ NoStar ps ∧ (∀ p r, ps = p :: r → Plain p ∧ NoStar r) ∧ (ps = [] → es = .nil) ∧ ∀ p, ps = [p] → ∃ e, es = .cons e .nil ∧ SE G p e
  o : ∀ {G : Gm} {p : Option Expr} {e : Oe}, ckO n G.gs p e = true → SOp G p e
  c : ∀ {G : Gm} {p : List Expr} {e : Oe}, ckC n G.gs p e = true → SC G p e
  d : ∀ {G : Gm} {keys : List (Option Expr)} {vals : List Expr} {ks : List D} {es : Es}, ckD n G.gs keys vals ks es = true → SP' G keys vals ks es ∧ (keys = [] → vals = [] ∧ ks = [] ∧ es = .nil)
  i : ∀ {G : Gm} {tg pe : Expr} {s : Sc}, ckI n G.gs tg pe s = true → SI G tg pe s
theorem OkN.zero : OkN 0 where
  e := fun h => by unfold ckE at h; cases h
  an := fun h => by unfold ckAnd at h; cases h
  or := fun h => by unfold ckOr at h; cases h
  a := fun h => by unfold ckA at h; cases h
  x := fun h => by unfold ckX at h; cases h
  o := fun h => by unfold ckO at h; cases h
  c := fun h => by unfold ckC at h; cases h
  d := fun h => by unfold ckD at h; cases h
  i := fun h => by unfold ckI at h; cases h
theorem glB_ok {G : Gm} {x : Str} (h : glB G.gs x = true) : GlS G x ∧ (x == ("__debug__" : Str)) = false := by
  unfold glB at h
  simp only [Bool.and_eq_true, decide_eq_true_eq, Bool.not_eq_true'] at h
  exact h
section
variable {n : Nat} {G : Gm}
theorem okN_e (ih : OkN n) {pe : Expr} {e : E} (h : ckE (n + 1) G.gs pe e = true) : SE G pe e := by
  unfold ckE at h
  split at h
  · -- frz
    simp only [Bool.and_eq_true] at h
    exact se_frz (ih.e h.2) (valB_ok h.1)
  · exact se_bad (plainB_ok h)
  · -- con
    split at h
    · rw [beqD_ok h]; exact se_int
    · rw [beqD_ok h]; exact se_bl
    · rw [beqD_ok h]; exact se_non
    · rw [beqD_ok h]; exact se_str
    · simp only [Bool.and_eq_true] at h
      obtain ⟨h1, h2⟩ := h
      obtain ⟨g1, g2⟩ := glB_ok h2
      obtain ⟨⟨y, d'⟩, hm, hp⟩ := List.any_eq_true.mp h1
      simp only [Bool.and_eq_true, decide_eq_true_eq] at hp
      obtain ⟨e1, e2⟩ := hp
      have e3 := beqD_ok e2
      subst e1 e3
      exact se_glob hm g1 g2
    · cases h
  · -- var
    split at h
    · simp only [Bool.and_eq_true, decide_eq_true_eq, Bool.not_eq_true'] at h
      exact se_var h.1.1.1 (visB_ok h.1.1.2) h.1.2 h.2
    · cases h
  · -- bin
    split at h
    · simp only [Bool.and_eq_true] at h
      exact se_bin (opB_ok h.1) (ih.e h.2.1) (ih.e h.2.2)
    · cases h
  · split at h
    · simp only [Bool.and_eq_true] at h
      exact se_binL (opLB_ok h.1) (ih.e h.2.1) (ih.e h.2.2)
    · cases h
  · split at h
    · exact se_neg (ih.e h)
    · cases h
  · split at h
    · exact se_not (ih.e h)
    · cases h
  · split at h
    · simp only [Bool.and_eq_true] at h
      exact se_cmp (copB_ok h.1) (ih.e h.2.1) (ih.e h.2.2)
    · cases h
  · split at h
    · simp only [Bool.and_eq_true] at h
      exact se_chain (copB_ok h.1.1) (copB_ok h.1.2) (ih.e h.2.1) (ih.e h.2.2.1) (ih.e h.2.2.2)
    · cases h
  · split at h
    · exact (ih.an h).se
    · cases h
  · split at h
    · exact (ih.or h).se
    · cases h
  · split at h
    · simp only [Bool.and_eq_true] at h
      exact se_ite (ih.e h.1) (ih.e h.2.1) (ih.e h.2.2)
    · cases h
  · split at h
    · exact se_tup (ih.a h)
    · cases h
  · split at h
    · exact se_lst (ih.a h)
    · cases h
  · -- call
    split at h
    · rename_i x p ps pos
      simp only [Bool.and_eq_true, decide_eq_true_eq, Bool.not_eq_true'] at h
      obtain ⟨⟨⟨h1, h2⟩, h3⟩, h4⟩ := h
      obtain ⟨g1, g2⟩ := glB_ok h2
      obtain ⟨x1, x2, x3, x4, _⟩ := ih.x h4
      cases ps with
      | nil => rw [x4 rfl]; exact se_call0 h1 g1 g2 h3
      | cons a r => exact se_call h1 g1 g2 x1 (x3 a r rfl).1 (x3 a r rfl).2
    · cases h
  · -- bi
    split at h
    · rename_i b es pe' x p ps pos
      simp only [Bool.and_eq_true, decide_eq_true_eq, Bool.not_eq_true'] at h
      obtain ⟨⟨⟨⟨h1, h2⟩, h3⟩, h4⟩, h5⟩ := h
      obtain ⟨g1, g2⟩ := glB_ok h3
      obtain ⟨x1, x2, x3, x4, x5⟩ := ih.x h5
      cases q : biName b with
      | none => rw [q] at h1; cases h1
      | some ts =>
        obtain ⟨t, s⟩ := ts
        rw [q] at h1
        have e1 : x = Str.ofString s := of_decide_eq_true h1
        subst e1
        obtain ⟨b1, b2, b3⟩ := biName_boot q
        cases ps with
        | nil => cases h4
        | cons a r =>
          cases t with
          | true => exact se_biB (biB_ok q) h2 g1 b1 b2 b3 x1 (x3 a r rfl).1 (x3 a r rfl).2
          | false => exact se_biT (biT_ok q) h2 g1 b1 b2 b3 x1 (x3 a r rfl).1 (x3 a r rfl).2
    · cases h
  · -- mth
    split at h
    · rename_i m o es pe' po name apos ps cpos
      simp only [Bool.and_eq_true, decide_eq_true_eq] at h
      obtain ⟨⟨⟨⟨⟨h1, h2⟩, h3⟩, hone⟩, h4⟩, h5⟩ := h
      obtain ⟨x1, x2, x3, x4, x5⟩ := ih.x h5
      have ho := ih.e h4
      cases m with
      | append =>
        have e1 : name = Str.ofString "append" := of_decide_eq_true h1
        subst e1
        cases ps with
        | nil => rw [x4 rfl]; exact se_mth0 (fun X => mthF_append) PySem.F.plainAttrs_list PySem.F.slot_list_append PySem.F.type_list_append (fun _ _ => rfl) ho h2
        | cons a r => exact se_mth (fun X => mthF_append) PySem.F.plainAttrs_list PySem.F.slot_list_append PySem.F.type_list_append (fun _ _ => rfl) ho x1 (x3 a r rfl).1 (x3 a r rfl).2 h3 h2
      | extend =>
        have e1 : name = Str.ofString "extend" := of_decide_eq_true h1
        subst e1
        cases ps with
        | nil => rw [x4 rfl]; exact se_mth0 (fun X => mthF_extend) PySem.F.plainAttrs_list PySem.F.slot_list_extend PySem.F.type_list_extend (fun _ _ => rfl) ho h2
        | cons a r => exact se_mth (fun X => mthF_extend) PySem.F.plainAttrs_list PySem.F.slot_list_extend PySem.F.type_list_extend (fun _ _ => rfl) ho x1 (x3 a r rfl).1 (x3 a r rfl).2 h3 h2
      | pop =>
        have e1 : name = Str.ofString "pop" := of_decide_eq_true h1
        subst e1
        cases ps with
        | nil => rw [x4 rfl]; exact se_mth0 (fun X => mthF_pop) PySem.F.plainAttrs_list PySem.F.slot_list_pop PySem.F.type_list_pop (fun _ _ => rfl) ho h2
        | cons a r => exact se_mth (fun X => mthF_pop) PySem.F.plainAttrs_list PySem.F.slot_list_pop PySem.F.type_list_pop (fun _ _ => rfl) ho x1 (x3 a r rfl).1 (x3 a r rfl).2 h3 h2
      | index => cases h1
      | join =>
        have e1 : name = Str.ofString "join" := of_decide_eq_true h1
        subst e1
        obtain ⟨a, rfl⟩ := List.length_eq_one_iff.mp (eq_of_beq (show (ps.length == 1) = true from hone))
        obtain ⟨ea, rfl, ha⟩ := x5 a rfl
        exact se_mthS (fun X => mthF_join) PySem.F.slot_str_join PySem.F.type_str_join (fun _ _ => rfl) ho ha h2
      | split =>
        have e1 : name = Str.ofString "split" := of_decide_eq_true h1
        subst e1
        obtain ⟨a, rfl⟩ := List.length_eq_one_iff.mp (eq_of_beq (show (ps.length == 1) = true from hone))
        obtain ⟨ea, rfl, ha⟩ := x5 a rfl
        exact se_mthS (fun X => mthF_split) PySem.F.slot_str_split PySem.F.type_str_split (fun _ _ => rfl) ho ha h2
    · cases h
  · split at h
    · simp only [Bool.and_eq_true] at h
      exact se_idx (ih.e h.1) (ih.e h.2)
    · cases h
  · split at h
    · simp only [Bool.and_eq_true] at h
      exact se_sli (ih.e h.1) (ih.o h.2.1) (ih.o h.2.2)
    · cases h
  · split at h
    · exact se_rev (ih.e h)
    · cases h
  · -- isi
    split at h
    · simp only [Bool.and_eq_true, decide_eq_true_eq] at h
      obtain ⟨⟨⟨⟨⟨⟨h1, h2⟩, h3⟩, h4⟩, h5⟩, h6⟩, h7⟩ := h
      subst h1
      obtain ⟨b1, b2, b3⟩ := tyB_ok h6
      exact se_isi h2 (glB_ok h3).1 h4 (glB_ok h5).1 b1 b2 b3 (ih.e h7)
    · cases h
  · -- dic
    split at h
    · rename_i keys vals pos
      simp only [Bool.and_eq_true, decide_eq_true_eq] at h
      obtain ⟨s, z⟩ := ih.d h.1
      cases keys with
      | nil =>
        obtain ⟨rfl, rfl, rfl⟩ := z rfl
        exact se_dic0
      | cons k ks => exact se_dic s (by simp) h.2
    · cases h
  · -- comp
    split at h
    · rename_i m own p src c elt pe' pelt tg iter ifs scope pos
      simp only [Bool.and_eq_true, decide_eq_true_eq] at h
      obtain ⟨⟨⟨⟨⟨⟨h1, h2⟩, h3⟩, h4⟩, h5⟩, h6⟩, h7⟩ := h
      have q : SE G (.ListComp pelt [⟨tg, iter, ifs, 0⟩] scope pos) (.comp m ((ownOf G.gs.N own).map (·.2)) p src c elt) := se_comp (G := G) (ih.i h1) (blkOk_by h2) h4 (ckP_ok (G := G.blk _) h5) (ih.c (G := G.blk _) h6) (ih.e (G := G.blk _) h7)
      rw [h3] at q
      exact q
    · cases h
  · split at h
    · simp only [Bool.and_eq_true, decide_eq_true_eq] at h
      obtain ⟨⟨⟨⟨⟨⟨h1, h2⟩, h3⟩, h4⟩, h5⟩, h6⟩, h7⟩ := h
      subst h1 h2
      exact se_lrng h5 (glB_ok h6).1 h3 (glB_ok h4).1 (ih.e h7)
    · cases h
  · cases h
theorem okN_i (ih : OkN n) {tg pe : Expr} {s : Sc} (h : ckI (n + 1) G.gs tg pe s = true) : SI G tg pe s := by
  unfold ckI at h
  split at h
  · exact si_seq (ih.e h)
  · split at h
    · split at h
      · simp only [Bool.and_eq_true, decide_eq_true_eq] at h
        obtain ⟨⟨⟨h1, h2⟩, h3⟩, h4⟩ := h
        subst h1
        exact si_enum h2 (glB_ok h3).1 (ih.e h4)
      · cases h
    · cases h
  · exact si_sgn (ih.e h)
  · split at h
    · split at h
      · simp only [Bool.and_eq_true, decide_eq_true_eq] at h
        obtain ⟨⟨⟨⟨h1, h2⟩, h3⟩, h4⟩, h5⟩ := h
        subst h1
        exact si_zip h2 (glB_ok h3).1 (ih.e h4) (ih.e h5)
      · cases h
    · cases h
  · split at h
    · simp only [Bool.and_eq_true, decide_eq_true_eq] at h
      obtain ⟨⟨⟨h1, h2⟩, h3⟩, h4⟩ := h
      subst h1
      exact si_rng1 h2 (glB_ok h3).1 (ih.e h4)
    · cases h
  · split at h
    · simp only [Bool.and_eq_true, decide_eq_true_eq] at h
      obtain ⟨⟨⟨⟨h1, h2⟩, h3⟩, h4⟩, h5⟩ := h
      subst h1
      exact si_rng2 h2 (glB_ok h3).1 (ih.e h4) (ih.e h5)
    · cases h
  · split at h
    · simp only [Bool.and_eq_true, decide_eq_true_eq] at h
      obtain ⟨⟨⟨⟨h1, h2⟩, h3⟩, h4⟩, h5⟩ := h
      subst h1
      exact si_rng3 h2 (glB_ok h3).1 (ih.e h4) (ih.e h5)
    · cases h
theorem OkN.succ (ih : OkN n) : OkN (n + 1) where
  e := fun h => okN_e ih h
  i := fun h => okN_i ih h
  an := fun {G es e} h => by
    unfold ckAnd at h
    split at h
    · cases h
    · exact sb_and1 (ih.e h)
    · split at h
      · simp only [Bool.and_eq_true] at h
        exact sb_and (ih.e h.1) (ih.an h.2)
      · cases h
  or := fun {G es e} h => by
    unfold ckOr at h
    split at h
    · cases h
    · exact sb_or1 (ih.e h)
    · split at h
      · simp only [Bool.and_eq_true] at h
        exact sb_or (ih.e h.1) (ih.or h.2)
      · cases h
  a := fun {G ps es} h => by
    unfold ckA at h
    split at h
    · split at h
      · exact sa_nil
      · cases h
    · split at h
      · cases h
      · simp only [Bool.and_eq_true] at h
        exact sa_cons (ih.e h.1) (ih.a h.2)
      · split at h
        · simp only [Bool.and_eq_true] at h
          exact sa_star (ih.e h.1) (ih.a h.2)
        · cases h
  x := fun {G ps es} h => by
    unfold ckX at h
    split at h
    · split at h
      · exact ⟨sa_nil, NoStar.nil, (fun _ _ e => nomatch e), (fun _ => rfl), fun _ e => nomatch e⟩
      · cases h
    · split at h
      · simp only [Bool.and_eq_true] at h
        obtain ⟨x1, x2, _, x4, _⟩ := ih.x h.2
        have e1 := ih.e h.1
        refine ⟨sa_cons e1 x1, NoStar.cons e1.pl x2, fun p r e => ?_, (fun e => nomatch e), fun p e => ?_⟩
        · cases e
          exact ⟨e1.pl, x2⟩
        · cases e
          exact ⟨_, by rw [x4 rfl], e1⟩
      · cases h
  o := fun {G p e} h => by
    unfold ckO at h
    split at h
    · split at h
      · exact so_none
      · cases h
    · split at h
      · exact so_some (ih.e h)
      · cases h
  c := fun {G p e} h => by
    unfold ckC at h
    split at h
    · split at h
      · exact sc_nil
      · cases h
    · split at h
      · exact sc_one (ih.e h)
      · cases h
    · cases h
  d := fun {G keys vals ks es} h => by
    unfold ckD at h
    split at h
    · split at h
      · split at h
        · split at h
          · exact ⟨sp_nil, fun _ => ⟨rfl, rfl, rfl⟩⟩
          · cases h
        · cases h
      · cases h
    · cases h
    · split at h
      · cases h
      · split at h
        · cases h
        · split at h
          · simp only [Bool.and_eq_true] at h
            exact ⟨sp_cons h.1.1.1 (ih.e h.1.1.2) (ih.e h.1.2) (ih.d h.2).1, fun e => nomatch e⟩
          · cases h
theorem okN : ∀ n, OkN n
  | 0 => OkN.zero
  | n + 1 => (okN n).succ
theorem ckE_ok {pe : Expr} {e : E} (h : ckE n G.gs pe e = true) : SE G pe e := (okN n).e h
end
end Pf

set_option linter.all false
set_option Elab.async false
set_option maxRecDepth 100000
set_option maxHeartbeats 1000000
set_option autoImplicit false
namespace Pf
open PySem PySem.Spec PyProof.Rows L2
/-- the order of the stores, by the scope (none: not told) -/
def blkK (sc : Scope) : ScopeKind := if sc.kind.isAnnotationScope then .function else sc.kind
def namesAt (sc : Scope) (ts : List Expr) : List Str := ts.filterMap fun
  | .Name id pos => if sc.names.lookup id == some .local && pos.line == (ts.head?.map (·.pos.line)).getD 0 then some id else none
  | _ => none
def swapN (sc : Scope) (t : Expr) (value : Expr) : Option (Option (List Str)) := match t, value with
  | .Tuple ts _ _, .Tuple vs _ _ =>
    if !(ts.length == 2 || ts.length == 3) || vs.length != ts.length || blkK sc != .function then some none
    else if vs.any (fun | .Starred .. => true | _ => false) then some none
    else if (namesAt sc ts).length != ts.length || (namesAt sc ts).eraseDups.length != (namesAt sc ts).length then some none
    else if vs.all (foldedForSure 8) then some none
    else if vs.all (constantsAlone 8) then none
    else some (some (namesAt sc ts))
  | .List _ _, .Tuple _ _ _ => none
  | _, _ => some none
theorem swapN_ok {sc : Scope} {t value : Expr} {r : Option (List Str)} (h : swapN sc t value = some r) : ∀ env : Env, env.scope = sc → swappedStores [t] value env = pure r := by
  intro env he
  subst he
  unfold swapN at h
  split at h
  · rename_i ts k1 p1 vs k2 p2
    have e0 : swappedStores [.Tuple ts k1 p1] (.Tuple vs k2 p2) env = (do
        if !(ts.length == 2 || ts.length == 3) || vs.length != ts.length || blkK env.scope != .function then return none
        if vs.any fun | .Starred .. => true | _ => false then return none
        if (namesAt env.scope ts).length != ts.length || (namesAt env.scope ts).eraseDups.length != (namesAt env.scope ts).length then return none
        if vs.all (foldedForSure 8) then return none
        if vs.all (constantsAlone 8) then unsupported "assign.tuple-of-constant-expressions:order-of-the-stores"
        return some (namesAt env.scope ts)) := rfl
    rw [e0]
    by_cases c1 : (!(ts.length == 2 || ts.length == 3) || vs.length != ts.length || blkK env.scope != .function) = true
    · rw [if_pos c1] at h ⊢; cases h; rfl
    · rw [if_neg c1] at h ⊢
      by_cases c2 : (vs.any fun | .Starred .. => true | _ => false) = true
      · rw [if_pos c2] at h
        cases h
        show (if _ then _ else _) = _
        rw [if_pos c2]
      · rw [if_neg c2] at h
        show (if _ then _ else _) = _
        rw [if_neg c2]
        by_cases c3 : ((namesAt env.scope ts).length != ts.length || (namesAt env.scope ts).eraseDups.length != (namesAt env.scope ts).length) = true
        · rw [if_pos c3] at h
          cases h
          show (if _ then _ else _) = _
          rw [if_pos c3]
        · rw [if_neg c3] at h
          show (if _ then _ else _) = _
          rw [if_neg c3]
          by_cases c4 : (vs.all (foldedForSure 8)) = true
          · rw [if_pos c4] at h
            cases h
            show (if _ then _ else _) = _
            rw [if_pos c4]
          · rw [if_neg c4] at h
            show (if _ then _ else _) = _
            rw [if_neg c4]
            by_cases c5 : (vs.all (constantsAlone 8)) = true
            · rw [if_pos c5] at h; cases h
            · rw [if_neg c5] at h
              cases h
              show (if _ then _ else _) = _
              rw [if_neg c5]
  · cases h
  · rename_i n1 n2
    cases h
    cases t with
    | Tuple ts k pos =>
      cases value with
      | Tuple vs k2 p2 => exact absurd rfl (n1 ts k pos vs k2 p2 rfl)
      | _ => rfl
    | List ts pos =>
      cases value with
      | Tuple vs k2 p2 => exact absurd rfl (n2 ts pos vs k2 p2 rfl)
      | _ => rfl
    | _ => rfl
def noLc : Expr → Bool
  | .ListComp .. => false
  | .SetComp .. => false
  | .DictComp .. => false
  | _ => true
theorem noLc_ok {e : Expr} (h : noLc e = true) : NoComp e := noComp (by cases e <;> first | rfl | cases h)
/-- a comprehension's value goes to the name by the other road -/
def lcOk (sc : Scope) (t e : Expr) (line : Nat) : Bool := noLc e || match e, t with
  | .ListComp _ _ s ps, .Name x pos => !(blkK sc == .function && sc.names.lookup x == some .local && pos.line == ps.line && !(s.names.any fun (n, k) => n == x && (k == .local || k == .cell)))
  | .ListComp _ _ s ps, .Tuple _ _ _ => true
  | .ListComp _ _ s ps, .Subscript _ _ _ => true
  | _, _ => false
theorem lcOk_ok {sc : Scope} {t e : Expr} {line : Nat} (h : lcOk sc t e line = true) : ∀ env : Env, env.scope = sc → swapsWithSole [t] e line env = pure false := by
  intro env he
  subst he
  unfold lcOk at h
  rcases Bool.or_eq_true_iff.mp h with h | h
  · exact noLc_ok h (some t) line env
  · split at h
    · rename_i s ps x pos
      show (pure _ : Sem Bool) = pure false
      congr 1
      have h' := Bool.not_eq_true' .. |>.mp h
      exact h'
    · rfl
    · rfl
    · cases h
def simE : E → Bool
  | .var _ => true
  | .con _ => true
  | _ => false
theorem simE_nx {cl : Nat → List D → M D} {ρ : Ev} {x : E} (hx : simE x = true) : ∀ S c fs S', ev cl x ρ S ≠ .exc c fs S' := by
  intro S c fs S' q
  cases x with
  | var j =>
    rw [ev] at q
    cases z : ρ[j]? with
    | none => rw [z] at q; cases q
    | some w =>
      rw [z] at q
      cases w <;> cases q
  | con d => rw [ev] at q; cases q
  | _ => cases hx
def noSub : Tg → Bool
  | .name _ => true
  | .tup _ => false
  | .sub o i => simE o && simE i
theorem setF_nx (o i v : D) : ∀ S c fs S', setF o i v S ≠ .exc c fs S' := by
  intro S c fs S' h
  unfold setF at h
  repeat (split at h <;> try cases h)
theorem noSub_ok : ∀ {ts : List Tg}, ts.all noSub = true → ∀ (cl : Nat → List D → M D) ds ρ S c fs S', bindTs cl ts ds ρ S ≠ .exc c fs S'
  | [], _, cl, ds, ρ, S, c, fs, S', e => by
    cases ds with
    | nil => rw [bindTs] at e; cases e
    | cons _ _ => exact nomatch (show (R.no : R Ev) = .exc c fs S' from e)
  | t :: ts, h, cl, ds, ρ, S, c, fs, S', e => by
    have h' := Bool.and_eq_true_iff.mp (show (noSub t && ts.all noSub) = true from h)
    cases ds with
    | nil => rw [bindTs] at e; cases e
    | cons d ds =>
      rw [bindTs] at e
      have e' : M.bind (bindT cl t d ρ) (fun ρ' => bindTs cl ts ds ρ') S = .exc c fs S' := e
      unfold M.bind at e'
      have key : ∀ c fs S2, bindT cl t d ρ S ≠ .exc c fs S2 := by
        intro c fs S2 q
        cases t with
        | name i => rw [bindT] at q; split at q <;> cases q
        | tup _ => cases h'.1
        | sub o i =>
          rw [bindT] at q
          have hh := Bool.and_eq_true_iff.mp (show (simE o && simE i) = true from h'.1)
          have q' : M.bind (ev cl o ρ) (fun x => M.bind (ev cl i ρ) fun y => M.bind (setF x y d) fun _ => M.pure ρ) S = .exc c fs S2 := q
          unfold M.bind at q'
          cases q1 : ev cl o ρ S with
          | no => rw [q1] at q'; cases q'
          | exc c1 fs1 S1 => exact simE_nx hh.1 _ _ _ _ q1
          | ok x S1 =>
            rw [q1] at q'
            simp only at q'
            cases q2 : ev cl i ρ S1 with
            | no => rw [q2] at q'; cases q'
            | exc c1 fs1 S1 => exact simE_nx hh.2 _ _ _ _ q2
            | ok y S3 =>
              rw [q2] at q'
              simp only at q'
              cases q3 : setF x y d S3 with
              | no => rw [q3] at q'; cases q'
              | exc c1 fs1 S1 => exact setF_nx _ _ _ _ _ _ _ q3
              | ok u S4 => rw [q3] at q'; cases q'
      cases q : bindT cl t d ρ S with
      | ok ρ' S1 => rw [q] at e'; exact noSub_ok h'.2 cl ds ρ' S1 c fs S' e'
      | exc c1 fs1 S1 => exact key _ _ _ q
      | no => rw [q] at e'; cases e'
/-- targets -/
def ckT1 (n : Nat) (g : Gs) (e : Expr) (t : Tg) : Bool := match t with
  | .name i => match e with
    | .Name x _ => decide (g.N[i]? = some x) && locB g x
    | _ => false
  | .sub o i => match e with
    | .Subscript a b _ => ckE n g a o && ckE n g b i && !isSl b
    | _ => false
  | .tup _ => false
def ckTs (n : Nat) (g : Gs) : List Expr → List Tg → Bool
  | [], [] => true
  | e :: es, t :: ts => ckT1 n g e t && ckTs n g es ts
  | _, _ => false
def ckT (n : Nat) (g : Gs) (e : Expr) (t : Tg) : Bool := match t with
  | .tup ts => match e with
    | .Tuple es _ _ => ts.all noSub && ckTs n g es ts
    | _ => false
  | t => ckT1 n g e t
section
variable {G : Gm} {n : Nat}
theorem ckT1_ok {e : Expr} {t : Tg} (h : ckT1 n G.gs e t = true) : ST G e t := by
  unfold ckT1 at h
  split at h
  · split at h
    · simp only [Bool.and_eq_true, decide_eq_true_eq] at h
      obtain ⟨l1, l2⟩ := locB_ok h.2
      exact st_name h.1 l1 l2
    · cases h
  · split at h
    · simp only [Bool.and_eq_true, Bool.not_eq_true'] at h
      exact st_sub (ckE_ok h.1.1) (ckE_ok h.1.2) h.2
    · cases h
  · cases h
theorem ckTs_ok : ∀ {es : List Expr} {ts : List Tg}, ckTs n G.gs es ts = true → STs G es ts
  | [], [], _ => sts_nil
  | e :: es, t :: ts, h => by
    have h' := Bool.and_eq_true_iff.mp (show (ckT1 n G.gs e t && ckTs n G.gs es ts) = true from h)
    exact sts_cons (ckT1_ok h'.1) (ckTs_ok h'.2)
  | [], _ :: _, h => by cases h
  | _ :: _, [], h => by cases h
theorem ckT_ok {e : Expr} {t : Tg} (h : ckT n G.gs e t = true) : ST G e t := by
  unfold ckT at h
  split at h
  · split at h
    · simp only [Bool.and_eq_true] at h
      exact st_tup (ckTs_ok h.2) (noSub_ok h.1)
    · cases h
  · exact ckT1_ok h
end
mutual
def ckS : Nat → Gs → Stmt → St → Bool
  | 0, _, _, _ => false
  | n + 1, g, py, st => match st with
    | .stop => true
    | .skip => match py with
      | .Pass _ => true
      | _ => false
    | .ret e => match py with
      | .Return (some pe) _ => ckE 100 g pe e
      | _ => false
    | .ex e => match py with
      | .Expr pe _ => noLc pe && ckE 100 g pe e
      | _ => false
    | .ifs c a b => match py with
      | .If pc pa pb _ => ckE 100 g pc c && ckSs n g pa a && ckSs n g pb b
      | _ => false
    | .for p src b => match py with
      | .For tg iter body [] _ => ckI 100 g tg iter src && ckP g tg p && ckSs n g body b
      | _ => false
    | .whl c b => match py with
      | .While pc body [] _ => ckE 100 g pc c && ckSs n g body b
      | _ => false
    | .asg t e => match py with
      | .Assign [pt] pe pos => match swapN g.sc pt pe with
        | none => false
        | some none => (lcOk g.sc pt pe pos.line && ckT 100 g pt t && ckE 100 g pe e) || ckLc g pt pe t e
        | some (some names) => ckPar g names pt pe t e
      | _ => false
    | _ => false
def ckSs : Nat → Gs → List Stmt → St → Bool
  | 0, _, _, _ => false
  | n + 1, g, py, st => match py with
    | [] => match st with
      | .skip => true
      | _ => false
    | a :: r => match st with
      | .seq x y => ckS n g a x && ckSs n g r y
      | _ => false
/-- a comprehension to a local name, on its line -/
def ckLc (g : Gs) (pt pe : Expr) (t : Tg) (e : E) : Bool := match pt, t with
  | .Name x px, .name i => match pe, e with
    | .ListComp pelt [⟨tg, iter, ifs, 0⟩] scope ps, .comp m own p src c elt =>
      decide (g.N[i]? = some x) && decide (g.sc.names.lookup x = some .local) && decide (g.sc.kind = .function) && (px.line == ps.line) && !(scope.names.any fun (n, k) => n == x && (k == .local || k == .cell)) &&
      ckI 100 g tg iter src && blkC g.N g.sc scope (ownOf g.N own) && decide ((ownOf g.N own).map (·.2) = own) && decide (∀ i ∈ slots p, i ∈ (ownOf g.N own).map (·.2)) && ckP (g.blk scope) tg p && ckC 100 (g.blk scope) ifs c && ckE 100 (g.blk scope) pelt elt
    | _, _ => false
  | _, _ => false
/-- two or three names at once -/
def ckPar (g : Gs) (names : List Str) (pt pe : Expr) (t : Tg) (e : E) : Bool := match pt, pe, t, e with
  | .Tuple [.Name x _, .Name y _] _ _, .Tuple [a, b] _ _, .tup [.name i, .name j], .tup (.cons ea (.cons eb .nil)) =>
    decide (names = [x, y]) && decide (g.N[i]? = some x) && decide (g.N[j]? = some y) && decide (i ≠ j) && decide (g.sc.names.lookup x = some .local) && decide (g.sc.names.lookup y = some .local) && ckE 100 g a ea && ckE 100 g b eb
  | .Tuple [.Name x _, .Name y _, .Name z _] _ _, .Tuple [a, b, d] _ _, .tup [.name i, .name j, .name l], .tup (.cons ea (.cons eb (.cons ed .nil))) =>
    decide (names = [x, y, z]) && decide (g.N[i]? = some x) && decide (g.N[j]? = some y) && decide (g.N[l]? = some z) && decide (i ≠ j) && decide (i ≠ l) && decide (j ≠ l) &&
    decide (g.sc.names.lookup x = some .local) && decide (g.sc.names.lookup y = some .local) && decide (g.sc.names.lookup z = some .local) && ckE 100 g a ea && ckE 100 g b eb && ckE 100 g d ed
  | _, _, _, _ => false
end
section
variable {G : Gm} {n : Nat}
theorem ckLc_ok {pt pe : Expr} {t : Tg} {e : E} {pos : Pos} (h : ckLc G.gs pt pe t e = true) : S1 G (.Assign [pt] pe pos) (.asg t e) := by
  unfold ckLc at h
  split at h
  · rename_i x px i
    split at h
    · rename_i pelt tg iter ifs scope ps m own p src c elt
      simp only [Bool.and_eq_true, decide_eq_true_eq, Bool.not_eq_true'] at h
      obtain ⟨⟨⟨⟨⟨⟨⟨⟨⟨⟨⟨h1, h2⟩, h3⟩, h4⟩, h5⟩, h6⟩, h7⟩, h8⟩, h9⟩, h10⟩, h11⟩, h12⟩ := h
      have q : S1 G (.Assign [.Name x px] (.ListComp pelt [⟨tg, iter, ifs, 0⟩] scope ps) pos) (.asg (.name i) (.comp m ((ownOf G.gs.N own).map (·.2)) p src c elt)) :=
        s1_setLc h1 h2 h3 h4 h5 ((okN 100).i h6) (blkOk_by h7) h9 (ckP_ok (G := G.blk scope) h10) ((okN 100).c (G := G.blk scope) h11) (ckE_ok (G := G.blk scope) h12)
      rw [h8] at q
      exact q
    · cases h
  · cases h
theorem ckPar_ok {names : List Str} {pt pe : Expr} {t : Tg} {e : E} {pos : Pos} (hw : ∀ env : Env, env.scope = G.sc → swappedStores [pt] pe env = pure (some names)) (h : ckPar G.gs names pt pe t e = true) : S1 G (.Assign [pt] pe pos) (.asg t e) := by
  unfold ckPar at h
  split at h
  · simp only [Bool.and_eq_true, decide_eq_true_eq] at h
    obtain ⟨⟨⟨⟨⟨⟨⟨h1, h2⟩, h3⟩, h4⟩, h5⟩, h6⟩, h7⟩, h8⟩ := h
    subst h1
    exact s1_par h2 h3 h4 h5 h6 (ckE_ok h7) (ckE_ok h8) hw
  · simp only [Bool.and_eq_true, decide_eq_true_eq] at h
    obtain ⟨⟨⟨⟨⟨⟨⟨⟨⟨⟨⟨⟨h1, h2⟩, h3⟩, h4⟩, h5⟩, h6⟩, h7⟩, h8⟩, h9⟩, h10⟩, h11⟩, h12⟩, h13⟩ := h
    subst h1
    exact s1_par3 h2 h3 h4 h5 h6 h7 h8 h9 h10 (ckE_ok h11) (ckE_ok h12) (ckE_ok h13) hw
  · cases h
theorem ckS_ok : ∀ n, (∀ {py : Stmt} {st : St}, ckS n G.gs py st = true → S1 G py st) ∧ (∀ {py : List Stmt} {st : St}, ckSs n G.gs py st = true → SS G py st)
  | 0 => ⟨(fun h => by unfold ckS at h; cases h), (fun h => by unfold ckSs at h; cases h)⟩
  | n + 1 => by
    obtain ⟨i1, i2⟩ := ckS_ok n
    refine ⟨fun {py st} h => ?_, fun {py st} h => ?_⟩
    · unfold ckS at h
      split at h
      · exact s1_stop
      · split at h
        · exact s1_pass
        · cases h
      · split at h
        · exact s1_ret (ckE_ok h)
        · cases h
      · split at h
        · simp only [Bool.and_eq_true] at h
          exact s1_ex (ckE_ok h.2) (noLc_ok h.1)
        · cases h
      · split at h
        · simp only [Bool.and_eq_true] at h
          exact s1_if (ckE_ok h.1.1) (i2 h.1.2) (i2 h.2)
        · cases h
      · split at h
        · simp only [Bool.and_eq_true] at h
          exact s1_for ((okN 100).i h.1.1) (ckP_ok h.1.2) (i2 h.2)
        · cases h
      · split at h
        · simp only [Bool.and_eq_true] at h
          exact s1_while (ckE_ok h.1) (i2 h.2)
        · cases h
      · split at h
        · split at h
          · cases h
          · rename_i hw
            rcases Bool.or_eq_true_iff.mp h with h | h
            · simp only [Bool.and_eq_true] at h
              exact s1_asg (ckT_ok h.1.2) (ckE_ok h.2) (lcOk_ok h.1.1) (swapN_ok hw)
            · exact ckLc_ok h
          · rename_i hw
            exact ckPar_ok (swapN_ok hw) h
        · cases h
      · cases h
    · unfold ckSs at h
      split at h
      · split at h
        · exact ss_nil
        · cases h
      · split at h
        · simp only [Bool.and_eq_true] at h
          exact ss_cons (i1 h.1) (i2 h.2)
        · cases h
theorem ckBody_ok {py : List Stmt} {st : St} (h : ckSs n G.gs py st = true) : SS G py st := (ckS_ok n).2 h
end
end Pf

set_option linter.all false
set_option Elab.async false
set_option maxRecDepth 100000
set_option autoImplicit false
/-! PfMod: a whole text, held to its small form -/
namespace Pf
open PySem PySem.Spec PyProof.Rows L2
/-- a def: its number, its name, its statement, its names -/
structure Rw where
  id : Nat
  name : Str
  st : Stmt
  ps : List Str
  N : List Str
def fn0 : Fn := ⟨0, 0, .stop, false⟩
def Rw.df (F : Nat → Option Fn) (r : Rw) : Df := ⟨r.id, r.name, defArgs r.st, defBody r.st, defScope r.st, r.ps, r.N, (F r.id).getD fn0⟩
def Rw.dd (r : Rw) : He.DefD := ⟨(r.name, none), r.name, r.name, defArgs r.st, defBody r.st, defScope r.st, [], []⟩
structure Tx where
  rows : List Rw
  con : List (Str × D)
  bi : List Str
def Tx.tb (T : Tx) : List (Str × Nat) := T.rows.map fun r => (r.name, r.id)
def conFa (p : Str × D) : He.Fa := match p.2 with
  | .int i => .int p.1 i
  | .str s => .str p.1 ⟨s.toArray⟩
  | _ => .free p.1
def conB (p : Str × D) : Bool := match p.2 with
  | .int _ => true
  | .str _ => true
  | _ => false
def Tx.fa (T : Tx) : List He.Fa := (T.rows.map fun r => He.Fa.glo r.name) ++ (T.con.map conFa ++ T.bi.map He.Fa.free)
def Tx.fn (T : Tx) : List He.DefD := T.rows.map Rw.dd
def Tx.gs (T : Tx) (d : Df) : Gs := ⟨d.N, d.scope, T.tb, T.con, T.bi, fun _ => true⟩
def dfB (d : Df) : Bool := (match d.scope.kind with | .function => true | _ => false) && !d.scope.isCoroutine && !d.scope.isGenerator && decide d.N.Nodup && decide (d.N.take d.ps.length = d.ps) &&
  (d.ps.all fun x => decide (d.scope.names.lookup x = some .local) || decide (d.scope.names.lookup x = some .cell)) && (d.scope.names.all fun y => decide (y.2 ≠ .free)) &&
  decide (d.fn.ps = d.ps.length) && decide (d.N.length = d.fn.n) && d.args.posonlyargs.isEmpty && decide (d.args.args.map (·.arg) = d.ps) && d.args.kwonlyargs.isEmpty && d.args.vararg.isNone && d.args.kwarg.isNone
theorem dfB_ok {d : Df} (h : dfB d = true) : DfOk d := by
  unfold dfB at h
  simp only [Bool.and_eq_true, decide_eq_true_eq, Bool.not_eq_true', List.all_eq_true, Bool.or_eq_true, List.isEmpty_iff, Option.isNone_iff_eq_none] at h
  obtain ⟨⟨⟨⟨⟨⟨⟨⟨⟨⟨⟨⟨⟨h1, h2⟩, h3⟩, h4⟩, h5⟩, h6⟩, h7⟩, h8⟩, h9⟩, h10⟩, h11⟩, h12⟩, h13⟩, h14⟩ := h
  have k : d.scope.kind = .function := by
    split at h1
    · assumption
    · cases h1
  exact ⟨⟨k, h2, h3, h4, h5, h6, h7⟩, h8, h9, h10, h11, h12, h13, h14⟩
theorem DfOk.bindsA {K : PySem.W.Frag} {d : Df} {f : Addr} {fd : FuncData} (h : DfOk d) (hF : FunD K d.name d.name d.args d.body d.scope [] [] f fd) : ∀ (s : Shared) (us : List Value), us.length = d.ps.length → BindsTo s fd ⟨us, []⟩ (d.ps.zip us) := by
  have ndP : d.ps.Nodup := by rw [← h.sc.pre]; exact h.sc.nd.sublist (List.take_sublist _ _)
  exact fun s us hl => hF.bindsA (fun kV doc pm an cdv ct us hl => bind_plain h.p1 h.p2 h.p3 h.p4 h.p5 rfl ndP us hl) s us hl
def Tx.ok (T : Tx) (F : Nat → Option Fn) : Bool := (T.rows.all fun r => (F r.id).isSome && (dfB (r.df F) && ckSs 300 (T.gs (r.df F)) (r.df F).body (r.df F).fn.body)) && T.con.all conB
section
variable {P : Program} {w : World} {K : PySem.W.Frag} {mg : Str → Option Value} {h : Heap} {T : Tx} {F : Nat → Option Fn}
theorem Tx.fns (ok : T.ok F = true) (X : K.In h) (Gn : h.Ns mainGlobals mg) (c : He.SaysD T.fa T.fn K) (r : Rw) (hr : r ∈ T.rows) (k : Nat) :
    ∃ f fd, mg r.name = some (.ref f) ∧ (∀ (s : Shared) (us : List Value), us.length = r.ps.length → BindsTo s fd ⟨us, []⟩ (r.ps.zip us)) ∧ FunD K r.name r.name (defArgs r.st) (defBody r.st) (defScope r.st) [] [] f fd ∧ ∀ base, FnG P w K mg base (fun _ => none) k f fd r.ps (callF F k r.id) := by
  have ok' := Bool.and_eq_true_iff.mp ok
  have o1 := List.all_eq_true.mp ok'.1
  have o2 := List.all_eq_true.mp ok'.2
  have facts : ∀ f ∈ T.fa, f.ok K = true := fun f hf => by
    obtain ⟨i, hi⟩ := List.getElem?_of_mem hf
    exact c.fact i hi
  have defs : ∀ r ∈ T.rows, ∃ f fd, FunD K r.name r.name (defArgs r.st) (defBody r.st) (defScope r.st) [] [] f fd ∧ mg r.name = some (.ref f) := fun r hr => by
    obtain ⟨i, hi⟩ := List.getElem?_of_mem (List.mem_map_of_mem (f := Rw.dd) hr)
    obtain ⟨fd, hF⟩ := c.def_ i (show T.fn[i]? = some r.dd from hi)
    refine ⟨_, fd, hF, ?_⟩
    exact He.glo_ok X Gn (facts (.glo r.name) (List.mem_append_left _ (List.mem_map_of_mem (f := fun r : Rw => He.Fa.glo r.name) hr)))
  have hcon : ∀ p ∈ T.con, ∃ u v, mg p.1 = some u ∧ RelV v u ∧ ∀ H loc, RelD K H loc p.2 v := fun p hp => by
    have hfa := facts (conFa p) (List.mem_append_right _ (List.mem_append_left _ (List.mem_map_of_mem hp)))
    have hb := o2 p hp
    obtain ⟨x, d⟩ := p
    cases d with
    | int i =>
      obtain ⟨t, e⟩ := He.int_ok X Gn (show (He.Fa.int x i).ok K = true from hfa)
      exact ⟨_, .int i, e, ⟨t, rfl⟩, fun _ _ => .int i⟩
    | str s =>
      obtain ⟨t, e⟩ := He.str_ok X Gn (show (He.Fa.str x ⟨s.toArray⟩).ok K = true from hfa)
      exact ⟨_, .str ⟨s.toArray⟩, e, ⟨t, rfl⟩, fun _ _ => .str s⟩
    | _ => cases hb
  have hbi : ∀ x ∈ T.bi, mg x = none := fun x hx => He.free_ok X Gn (facts (.free x) (List.mem_append_right _ (List.mem_append_right _ (List.mem_map_of_mem hx))))
  obtain ⟨f, fd, g1, g2⟩ := defs r hr
  have okr : ∀ r ∈ T.rows, F r.id = some (r.df F).fn ∧ DfOk (r.df F) ∧ ∀ k, SS (gmOf F (fun _ => none) T.tb T.con T.bi k (r.df F)) (r.df F).body (r.df F).fn.body := fun r hr => by
    have z := Bool.and_eq_true_iff.mp (o1 r hr)
    have z2 := Bool.and_eq_true_iff.mp z.2
    refine ⟨?_, dfB_ok z2.1, fun k => ckBody_ok (G := gmOf F (fun _ => none) T.tb T.con T.bi k (r.df F)) z2.2⟩
    obtain ⟨fn, e⟩ := Option.isSome_iff_exists.mp z.1
    show F r.id = some ((F r.id).getD fn0)
    rw [e] <;> rfl
  refine ⟨f, fd, g2, (okr r hr).2.1.bindsA g1, g1, fun base => ?_⟩
  have all := allFn (P := P) (w := w) (K := K) (mg := mg) (base := base) (C := fun _ => none) (F := F) (tb := T.tb) (con := T.con) (bi := T.bi) (defs := T.rows.map (Rw.df F)) (fun d hd => by
      obtain ⟨r, hr, rfl⟩ := List.mem_map.mp hd
      exact (okr r hr).1) (fun p hp => by
      obtain ⟨r, hr, rfl⟩ := List.mem_map.mp hp
      exact ⟨_, List.mem_map_of_mem hr, rfl, rfl⟩) (fun d hd => by
      obtain ⟨r, hr, rfl⟩ := List.mem_map.mp hd
      exact (okr r hr).2.1) (fun d hd => by
      obtain ⟨r, hr, rfl⟩ := List.mem_map.mp hd
      exact (okr r hr).2.2) (fun d hd => by
      obtain ⟨r, hr, rfl⟩ := List.mem_map.mp hd
      exact defs r hr) hcon hbi
  exact all k (r.df F) (List.mem_map_of_mem hr) f fd g1
end
/-- a law, by its text's small form and the evaluator's answer -/
theorem law_of {l : PySem.W.OpenLaw} {n k i : Nat} {q : Program} {loose : List Str} {XP : (Str → Option Value) → Heap → Prop} {d : DefRec} {T : Tx} {F : Nat → Option Fn} {r : Rw} {x : Str} {m : Nat} (ok : T.ok F = true) (hr : T.rows[i]? = some r) (hps : r.ps = [x]) (hnm : d.name = r.name)
    (hn : l.most = some n) (hn2 : n ≤ sizeLine) (hdf : d.params.defaults = []) (hro : Room k callerA) (hsp : ∀ ns : List Int, ns.length ≤ n → ∃ S, callF F k r.id [scrD ns] [] = .ok (.bl true) S) :
    PySem.W.WalkO q loose XP (He.hookD m T.fa T.fn).says l.row.toRowW d [] (fun f vs => PySem.call f vs) := by
  refine walk_G (x := x) hn hn2 hdf hro (fun w mg fa h Y G hmg => ?_) hsp
  obtain ⟨K, KX, c⟩ := Y
  obtain ⟨f, fd, h1, h2, h4, h5⟩ := Tx.fns (P := l.prog) (w := w) ok KX G c r (List.mem_of_getElem? hr) k
  rw [hnm] at hmg
  have e := hmg.symm.trans h1
  cases e
  refine ⟨K, fun _ => none, fd, KX, fun s u => ?_, fun base _ _ => ?_⟩
  · have b := h2 s [u] (by rw [hps] <;> rfl)
    rw [hps] at b
    exact b
  · have z := h5 base
    rw [hps] at z
    exact z
end Pf

set_option linter.all false
set_option Elab.async false
set_option maxRecDepth 100000
set_option maxHeartbeats 0
namespace Pf.Lk17
open PySem PySem.Spec PyProof.Rows L2
def top (i : Nat) : Stmt := PySem.Challenge.pw_madeofhere_k17_texts_back_and_forth.main.body.getD i (.Pass ⟨0, 0, 0, 0⟩)
def r_law : Rw := ⟨62, "law", top 70, ["script"], ["script", "m", "lap", "inner", "good", "rows", "text", "row", "words", "part", "of"]⟩
def r__law_begun : Rw := ⟨46, "_law_begun", top 59, ["script"], ["script", "great", "cell"]⟩
def r__law_good : Rw := ⟨45, "_law_good", top 65, ["m", "moving", "making"], ["m", "moving", "making", "left", "found"]⟩
def r__law_draw : Rw := ⟨39, "_law_draw", top 60, ["m", "limit"], ["m", "limit", "spot", "cell", "mixed", "found"]⟩
def r__law_thing : Rw := ⟨44, "_law_thing", top 64, ["m", "left", "must"], ["m", "left", "must", "low", "high", "land", "size", "rows", "k"]⟩
def r__law_span : Rw := ⟨43, "_law_span", top 62, ["m", "left"], ["m", "left", "low"]⟩
def r__law_of : Rw := ⟨40, "_law_of", top 61, ["m", "some"], ["m", "some"]⟩
def r__law_term : Rw := ⟨42, "_law_term", top 63, ["m"], ["m", "share"]⟩
def r__law_text : Rw := ⟨61, "_law_text", top 69, ["thing", "depth"], ["thing", "depth", "found", "part"]⟩
def r_good_text : Rw := ⟨60, "good_text", top 48, ["good"], ["good"]⟩
def r_need_good : Rw := ⟨22, "need_good", top 33, ["thing"], ["thing", "fault", "one", "parts"]⟩
def r_fault_in : Rw := ⟨21, "fault_in", top 29, ["good"], ["good", "waiting", "number", "made", "thing", "part"]⟩
def r_is_made : Rw := ⟨20, "is_made", top 28, ["thing"], ["thing"]⟩
def r_wrong_part : Rw := ⟨19, "wrong_part", top 27, ["thing"], ["thing"]⟩
def r_has_form : Rw := ⟨18, "has_form", top 26, ["thing"], ["thing"]⟩
def r_is_whole : Rw := ⟨16, "is_whole", top 24, ["thing", "least", "most"], ["thing", "least", "most"]⟩
def r_is_rule : Rw := ⟨17, "is_rule", top 25, ["thing"], ["thing"]⟩
def r_moves_in : Rw := ⟨15, "moves_in", top 32, ["good"], ["good", "number", "thing", "parts"]⟩
def r_numbered : Rw := ⟨6, "numbered", top 31, ["good"], ["good"]⟩
def r_numbered_from : Rw := ⟨5, "numbered_from", top 30, ["thing", "begin"], ["thing", "begin", "rows", "numbers", "part"]⟩
def r_rows_of : Rw := ⟨59, "rows_of", top 47, ["thing", "depth"], ["thing", "depth", "found", "part"]⟩
def r_thing_words : Rw := ⟨58, "thing_words", top 46, ["thing", "depth"], ["thing", "depth", "found"]⟩
def r_read_good : Rw := ⟨57, "read_good", top 53, ["string"], ["string"]⟩
def r_items_in : Rw := ⟨56, "items_in", top 51, ["string"], ["string", "found", "number", "row", "depth", "words", "thing", "most"]⟩
def r_depth_in : Rw := ⟨55, "depth_in", top 49, ["words"], ["words"]⟩
def r_thing_in : Rw := ⟨54, "thing_in", top 50, ["words"], ["words", "numbers", "word"]⟩
def r_number_of : Rw := ⟨48, "number_of", top 45, ["word", "most"], ["word", "most", "sign"]⟩
def r_thing_from : Rw := ⟨53, "thing_from", top 52, ["rows", "at"], ["rows", "at", "depth", "thing", "parts", "place", "part"]⟩
def r__law_prices : Rw := ⟨41, "_law_prices", top 68, ["m", "good"], ["m", "good", "found", "thing", "numbers", "low", "high", "of", "part"]⟩
def r__law_least : Rw := ⟨31, "_law_least", top 67, ["part", "of"], ["part", "of", "one", "two", "sign"]⟩
def r__law_rows : Rw := ⟨34, "_law_rows", top 66, ["thing", "begin"], ["thing", "begin", "found", "numbers", "part"]⟩
def r_prices_text : Rw := ⟨52, "prices_text", top 55, ["good", "prices"], ["good", "prices", "price"]⟩
def r_need_priced : Rw := ⟨23, "need_priced", top 36, ["good", "prices"], ["good", "prices"]⟩
def r_prices_for_good : Rw := ⟨14, "prices_for_good", top 35, ["good", "prices"], ["good", "prices", "rows", "number", "thing", "parts"]⟩
def r_is_price : Rw := ⟨13, "is_price", top 34, ["thing", "price"], ["thing", "price"]⟩
def r_is_fraction : Rw := ⟨12, "is_fraction", top 9, ["thing"], ["thing", "one"]⟩
def r_divisor : Rw := ⟨1, "divisor", top 6, ["one", "other"], ["one", "other"]⟩
def r_is_below : Rw := ⟨0, "is_below", top 8, ["one", "other"], ["one", "other"]⟩
def r_fraction_text : Rw := ⟨51, "fraction_text", top 54, ["fraction"], ["fraction"]⟩
def r_read_prices : Rw := ⟨50, "read_prices", top 57, ["good", "string"], ["good", "string", "found", "word"]⟩
def r_fraction_of : Rw := ⟨49, "fraction_of", top 56, ["word"], ["word", "words", "part", "of"]⟩
def r_least_terms : Rw := ⟨2, "least_terms", top 7, ["part", "of"], ["part", "of", "by"]⟩
def rows : List Rw := [r_law, r__law_begun, r__law_good, r__law_draw, r__law_thing, r__law_span, r__law_of, r__law_term, r__law_text, r_good_text, r_need_good, r_fault_in, r_is_made, r_wrong_part, r_has_form, r_is_whole, r_is_rule, r_moves_in, r_numbered, r_numbered_from, r_rows_of, r_thing_words, r_read_good, r_items_in, r_depth_in, r_thing_in, r_number_of, r_thing_from, r__law_prices, r__law_least, r__law_rows, r_prices_text, r_need_priced, r_prices_for_good, r_is_price, r_is_fraction, r_divisor, r_is_below, r_fraction_text, r_read_prices, r_fraction_of, r_least_terms]
def con : List (Str × D) := [("AWAY", (.str [97, 119, 97, 121])), ("BLANK", (.str [32])), ("DIGITS", (.str [48, 49, 50, 51, 52, 53, 54, 55, 56, 57])), ("HERE", (.str [104, 101, 114, 101])), ("MADE", (.str [109, 97, 100, 101])), ("MOST_DIGITS", (.int 7)), ("MOST_FIGURES", (.int 30)), ("MOST_MOVES", (.int 3)), ("MOST_PARTS", (.int 4)), ("MOST_PRICE", (.int 1000000)), ("MOST_SHARE", (.int 100)), ("MOST_STEPS", (.int 4)), ("MOST_THINGS", (.int 10)), ("NONE", (.str [110, 111, 110, 101])), ("OWN", (.str [111, 119, 110])), ("POINT", (.str [46])), ("RAW", (.str [114, 97, 119])), ("ROW_END", (.str [10])), ("SLASH", (.str [47])), ("WHOLE", (.str [119, 104, 111, 108, 101]))]
def bi : List Str := ["abs", "all", "bool", "enumerate", "int", "isinstance", "len", "list", "max", "min", "range", "repr", "str", "tuple"]
def tx : Tx := ⟨rows, con, bi⟩
theorem tx_ok : tx.ok FF = true := by
  kernel_rfl
end Pf.Lk17

set_option linter.all false
set_option Elab.async false
set_option maxRecDepth 100000
set_option maxHeartbeats 0
namespace Pf.Lk17
open PySem PySem.Spec PyProof.Rows L2
abbrev R : PySem.W.OpenRow := PySem.W.OpenLaw.row PySem.Challenge.rw_madeofhere_k17_texts_back_and_forth
abbrev hk : PySem.W.Hook := He.hookD 3 tx.fa tx.fn
def ob (s : PySem.W.SharedT) : He.AlD := He.obsDG 3 tx.fa tx.fn (HandSHeadRun.getT s)
theorem ob_eq (s : PySem.W.SharedT) : ob s = hk.obs s.abs := He.obsDG_eq (HandSHeadRun.getT_eq s)
def loose0 : List Str := ["MakeError", "BadGood", "BadPrices", "BadText", "divisor", "least_terms", "is_below", "is_fraction", "RAW", "MADE", "HERE", "AWAY", "WHOLE", "OWN", "NONE", "MOST_PRICE", "MOST_SHARE", "MOST_PARTS", "MOST_STEPS", "MOST_THINGS", "MOST_MOVES", "is_whole", "is_rule", "has_form", "wrong_part", "is_made", "fault_in", "numbered_from", "numbered", "moves_in"]
def loose1 : List Str := ["need_good", "is_price", "prices_for_good", "need_priced", "ROW_END", "BLANK", "POINT", "SLASH", "DIGITS", "MOST_DIGITS", "MOST_FIGURES", "number_of", "thing_words", "rows_of", "good_text", "depth_in", "thing_in", "items_in", "thing_from", "read_good", "fraction_text", "prices_text", "fraction_of", "read_prices", "_law_begun", "_law_draw", "_law_of", "_law_span", "_law_term", "_law_thing"]
def loose2 : List Str := ["_law_good", "_law_rows", "_law_least", "_law_prices", "_law_text"]
def loose : List Str := loose0 ++ loose1 ++ loose2
theorem run (w : World) : HandSHeadRun.RunEq R (PySem.W.view R.prog [70]) hk ob 12000 loose w := by
  intro os
  kernel_rfl
end Pf.Lk17
open PySem PySem.W PySem.Calls PyProof.Rows
theorem Pf.Lk17.law_by (hsp : ∀ ns : List Int, ns.length ≤ 63 → ∃ S, Pf.callF Pf.FF 200 62 [Pf.scrD ns] [] = .ok (.bl true) S) : PySem.Challenge.rw_madeofhere_k17_texts_back_and_forth.Holds := by
  w_on; o_law
  refine HandSHeadRun.head_any (r := OpenLaw.row PySem.Challenge.rw_madeofhere_k17_texts_back_and_forth) (q := view (OpenLaw.row PySem.Challenge.rw_madeofhere_k17_texts_back_and_forth).prog [70]) (H := Pf.Lk17.hk) (ob := Pf.Lk17.ob) (M := 12000) (loose := Pf.Lk17.loose)
    (d := HandSHeadRun.topDef (OpenLaw.row PySem.Challenge.rw_madeofhere_k17_texts_back_and_forth).prog 70) (kwd := []) Pf.Lk17.ob_eq (by kernel_rfl) (fun s => by kernel_rfl) Pf.Lk17.run (by kernel_rfl) (by kernel_rfl) (by kernel_rfl) (by rfl)
    (by first | assumption | decide +kernel) (by decide +kernel) ⟨rfl, rfl, rfl, rfl, rfl, by decide +kernel⟩ ?hw ?hc
  case hw => w_witness2
  case hc => exact Pf.law_of (l := PySem.Challenge.rw_madeofhere_k17_texts_back_and_forth) (n := 63) (k := 200) (i := 0) (x := "script") (r := Pf.Lk17.r_law) Pf.Lk17.tx_ok rfl rfl (by kernel_rfl) rfl (by decide) (by kernel_rfl) ⟨rfl, by decide, by decide⟩ hsp


theorem PySem.Challenge.cw_madeofhere_k17_texts_back_and_forth_holds : PySem.Challenge.rw_madeofhere_k17_texts_back_and_forth.Holds := by
  exact Pf.Lk17.law_by Pf.k17_ev
