import PyProof.Rows.All
import Wide.All
import OpenK.AllK
import Wide.FinOn
import HandS.ForMost
import KE.KeyNested
import KE.KDictKeyed
import KE.KDictDisplayH
import HandS.ReplaceLit
import HandS.SortInts
import HandS.Wide
import HandS.Dict
import HandS.Style
import HandS.IsInst
import HandS.Flow
import KE.KDictSum
import KE.KDictCopyH
import KE.DataCmp
import HandS.SetTxt0
import HandS.SetFor
import HandS.Small
import HandS.More
import HandS.Defaults
import KE.KStateDown
import Lean
import HandS.Base
import HandS.Call
import HandS.Ends
import HandS.Words
import HandS.WordsExc
import HandS.Head0
import HandS.Head1
import HandS.Head2
import HandS.HeadEnd
import HandS.HeadHook1
import HandS.HeadHook2
import PySem.Challenge.RW_splitmoot_k03_whole_masks_covered
set_option Elab.async false
set_option linter.all false
set_option maxRecDepth 100000
/-! A small Python over plain data: values, syntax by slots, a functional interpreter. -/
namespace Mp
open PySem

/-- data. lst o, dic o: o says that the list (dict) is nobody else's and may be changed; a changed or handed-on place is a hole -/
inductive D where
  | hole | non
  | bl (b : Bool)
  | int (i : Int)
  | str (s : List Nat)
  | tup (xs : List D)
  | lst (o : Bool) (xs : List D)
  | dic (o : Bool) (ks vs : List D)

mutual
/-- nothing in it may be changed -/
def clean : D → Bool
  | .hole => false
  | .tup xs => cleans xs
  | .lst o xs => !o && cleans xs
  | .dic o ks vs => !o && cleans ks && cleans vs
  | _ => true
def cleans : List D → Bool
  | [] => true
  | x :: xs => clean x && cleans xs
end
mutual
/-- nothing in it is to be changed from now on -/
def frz : D → D
  | .tup xs => .tup (frzs xs)
  | .lst _ xs => .lst false (frzs xs)
  | .dic _ ks vs => .dic false (frzs ks) (frzs vs)
  | d => d
def frzs : List D → List D
  | [] => []
  | x :: xs => frz x :: frzs xs
end
mutual
/-- no hole in it -/
def whole : D → Bool
  | .hole => false
  | .tup xs => wholes xs
  | .lst _ xs => wholes xs
  | .dic _ ks vs => wholes ks && wholes vs
  | _ => true
def wholes : List D → Bool
  | [] => true
  | x :: xs => whole x && wholes xs
end

mutual
/-- a key of whole numbers, as the library's -/
def nkOf : D → NestedKey
  | .int i => .num i
  | .str s => .text ⟨s.toArray⟩
  | .tup xs => .tup (nksOf xs)
  | _ => .none
def nksOf : List D → List NestedKey
  | [] => []
  | x :: xs => nkOf x :: nksOf xs
end
mutual
def keyD : D → Bool
  | .int _ => true
  | .str _ => true
  | .tup xs => keyDs xs
  | _ => false
def keyDs : List D → Bool
  | [] => true
  | x :: xs => keyD x && keyDs xs
end
/-- a tuple that may be a key -/
def keyT : D → Bool
  | .tup xs => keyDs xs && decide ((nkOf (.tup xs)).depth ≤ 8)
  | _ => false
def sameN (a b : D) : Bool := NestedKey.beq (nkOf a) (nkOf b)
/-- what a dict with such keys holds at one -/
def atN : List D → List D → D → Option D
  | k :: ks, v :: vs, x => if sameN k x then some v else atN ks vs x
  | _, _, _ => none

mutual
/-- nothing in it leans on what is never changed -/
def loose : D → Bool
  | .tup _ => false
  | .lst o xs => o && looses xs
  | .dic _ _ _ => false
  | _ => true
def looses : List D → Bool
  | [] => true
  | x :: xs => loose x && looses xs
end
abbrev Env := List D
def isHole : D → Bool
  | .hole => true
  | _ => false
inductive R (α : Type) where
  | ok (a : α) (e : Env)
  | no
def R.bind {α β : Type} (r : R α) (f : α → Env → R β) : R β := match r with
  | .ok a e => f a e
  | .no => .no
@[simp] theorem bind_ok {α β : Type} (a : α) (e : Env) (f : α → Env → R β) : (R.ok a e).bind f = f a e := rfl
@[simp] theorem bind_no {α β : Type} (f : α → Env → R β) : (R.no : R α).bind f = R.no := rfl
def R.of {α : Type} (o : Option α) (e : Env) : R α := match o with
  | some a => .ok a e
  | none => .no
@[simp] theorem of_some {α : Type} (a : α) (e : Env) : R.of (some a) e = .ok a e := rfl
@[simp] theorem of_none {α : Type} (e : Env) : R.of (none : Option α) e = .no := rfl

def get (e : Env) (i : Nat) : D := e.getD i .hole

/-! ### operators -/
inductive Op where
  | add | sub | mul | fdiv | md | pow
  | eq | ne | lt | le | gt | ge | isin | notin | isN | notN
  | ix | sl (l h : Bool) | rev
  | len | sorted | tuple | list | all | any
  | join
  | isi (k : Nat) | toInt
  | repl (i : Int) (y z : List Nat)
  | sset
  deriving DecidableEq

def allBl : List D → Option (List Bool)
  | [] => some []
  | .bl b :: r => (allBl r).map (b :: ·)
  | _ => none
def allInt : List D → Option (List Int)
  | [] => some []
  | .int i :: r => (allInt r).map (i :: ·)
  | _ => none
def allStr : List D → Option (List (List Nat))
  | [] => some []
  | .str i :: r => (allStr r).map (i :: ·)
  | _ => none
def insI (x : Int) : List Int → List Int
  | [] => [x]
  | y :: ys => if x ≤ y then x :: y :: ys else y :: insI x ys
def sortI : List Int → List Int
  | [] => []
  | x :: xs => insI x (sortI xs)
/-- into a rising row, once -/
def insC (x : Nat) : List Nat → List Nat
  | [] => [x]
  | y :: ys => if x < y then x :: y :: ys else if x = y then y :: ys else y :: insC x ys
def sortC : List Nat → List Nat
  | [] => []
  | x :: xs => insC x (sortC xs)
def allSign : List D → Option (List Nat)
  | [] => some []
  | .str [c] :: r => (allSign r).map (c :: ·)
  | _ => none
def joinL (sep : List Nat) : List (List Nat) → List Nat
  | [] => []
  | x :: r => x ++ r.flatMap fun y => sep ++ y

/-- a slice's bound as a place among n -/
def cutP (n d : Nat) (o : Option Int) : Nat := HT.sIx n d o
def cut {α : Type} (xs : List α) (lo hi : Option Int) : List α := (xs.drop (cutP xs.length 0 lo)).take (cutP xs.length xs.length hi - cutP xs.length 0 lo)

/-- scalars: == as data does -/
def eqS : D → D → Option Bool
  | .non, .non => some true
  | .int i, .int j => some (decide (i = j))
  | .bl a, .bl b => some (decide (a = b))
  | .str x, .str y => some (decide (x = y))
  | .non, .int _ => some false | .int _, .non => some false
  | .non, .bl _ => some false | .bl _, .non => some false
  | .non, .str _ => some false | .str _, .non => some false
  | .int _, .str _ => some false | .str _, .int _ => some false
  | .bl _, .str _ => some false | .str _, .bl _ => some false
  | _, _ => none
/-- flat things: is one of a row equal to it -/
def flat : D → Bool
  | .non => true | .bl _ => true | .int _ => true | .str _ => true | _ => false
def eqF : D → D → Bool
  | .non, .non => true
  | .bl a, .bl b => a == b
  | .bl a, .int j => (if a then 1 else 0) == j
  | .int i, .bl b => i == (if b then 1 else 0)
  | .int i, .int j => i == j
  | .str x, .str y => x == y
  | _, _ => false
mutual
def pd : D → PyData
  | .hole => .none
  | .non => .none
  | .bl b => .bool b
  | .int i => .int i
  | .str s => .str ⟨s.toArray⟩
  | .tup xs => .tuple (pds xs)
  | .lst _ xs => .list (pds xs)
  | .dic _ _ _ => .none
def pds : List D → List PyData
  | [] => []
  | x :: xs => pd x :: pds xs
end
mutual
/-- nothing but None, truths, numbers, texts, lists, tuples -/
def plain : D → Bool
  | .hole => false
  | .tup xs => plains xs
  | .lst _ xs => plains xs
  | .dic _ _ _ => false
  | _ => true
def plains : List D → Bool
  | [] => true
  | x :: xs => plain x && plains xs
end
def isSeq : D → Bool
  | .tup _ => true | .lst _ _ => true | _ => false
def eqD (a b : D) : Option Bool := match isSeq a || isSeq b with
  | false => eqS a b
  | true => match plain a && plain b && SeqAt.shaped (pd a) && SeqAt.shaped (pd b) with
    | true => some (PyData.eqv (pd a) (pd b))
    | false => none
def smallI (i : Int) : Bool := decide (-(2 ^ 62) ≤ i) && decide (i < 2 ^ 62)

def atL {α : Type} (xs : List α) (i : Int) : Option α := L2.atI xs i
def bigLine : Nat := 2 ^ 24
def sem1 (f : D → Option D) : List D → Option D
  | [a] => f a
  | _ => none
def sem2 (f : D → D → Option D) : List D → Option D
  | [a, b] => f a b
  | _ => none
def semAdd : D → D → Option D
  | .int i, .int j => some (.int (i + j))
  | .str x, .str y => if x.length + y.length ≤ bigLine then some (.str (x ++ y)) else none
  | .lst _ xs, .lst _ ys => if cleans xs && cleans ys && decide (xs.length + ys.length ≤ bigLine) then some (.lst true (xs ++ ys)) else none
  | _, _ => none
def semSub : D → D → Option D
  | .int i, .int j => some (.int (i - j))
  | _, _ => none
def mulOk (i j : Int) : Bool := decide (-(2 ^ 64) < i) && decide (i < 2 ^ 64) || decide (-(2 ^ 64) < j) && decide (j < 2 ^ 64)
def semMul : D → D → Option D
  | .int i, .int j => if mulOk i j then some (.int (i * j)) else none
  | .lst true xs, .int k => if cleans xs && decide (-(2 ^ 63) ≤ k) && decide (k < 2 ^ 63) && decide (xs.length * k.toNat ≤ bigLine) then some (.lst true (List.replicate k.toNat xs).flatten) else none
  | .str xs, .int k => if decide (2 ≤ k) && decide (1 ≤ xs.length) && decide (xs.length * k.toNat ≤ bigLine) then some (.str (List.replicate k.toNat xs).flatten) else none
  | _, _ => none
def semDiv : D → D → Option D
  | .int i, .int j => if decide (0 < j) && decide (j < 2 ^ 60) then some (.int (i / j)) else none
  | _, _ => none
def semMod : D → D → Option D
  | .int i, .int j => if 0 < j then some (.int (i % j)) else none
  | _, _ => none
def semPow : D → D → Option D
  | .int i, .int j => if decide (0 ≤ j) && decide (j ≤ 1000000) && decide (i.natAbs < 2 ^ 64) then some (.int (i ^ j.toNat)) else none
  | _, _ => none
/-- (number, text) ahead of another -/
def pairLt (i : Int) (x : List Nat) (j : Int) (y : List Nat) : Bool := decide (i < j) || (decide (i = j) && decide (x < y))
def semCmp (p : Int → Int → Bool) (f : Bool → Bool → Bool) : D → D → Option D
  | .int i, .int j => some (.bl (p i j))
  | .str x, .str y => some (.bl (f (decide (x < y)) (decide (y < x))))
  | .tup [.int i, .str x], .tup [.int j, .str y] => some (.bl (f (pairLt i x j y) (pairLt j y i x)))
  | _, _ => none
def semIn : D → D → Option Bool
  | .str [c], .str y => some (y.contains c)
  | x, .tup ys => if flat x && ys.all flat then some (ys.any fun y => eqF y x) else none
  | x, .lst _ ys => if flat x && ys.all flat then some (ys.any fun y => eqF y x) else none
  | .int i, .dic _ ks _ => (allInt ks).map fun ns => ns.contains i
  | .tup xs, .dic _ ks _ => if keyT (.tup xs) && ks.all keyT then some (ks.any fun k => sameN k (.tup xs)) else none
  | _, _ => none
def isNon : D → Bool
  | .non => true
  | _ => false
def semIx : D → D → Option D
  | .lst _ xs, .int i => (atL xs i).bind fun d => if clean d then some d else none
  | .tup xs, .int i => (atL xs i).bind fun d => if clean d then some d else none
  | .str xs, .int i => if xs.length ≤ bigLine then (atL xs i).map fun c => .str [c] else none
  | .dic _ ks vs, .tup xs => if keyT (.tup xs) && ks.all keyT && decide (ks.length = vs.length) then (atN ks vs (.tup xs)).bind fun d => if clean d then some d else none else none
  | _, _ => none
def partD : D → Option (Option Int)
  | .int i => some (some i)
  | _ => none
/-- the parts of a slice -/
def partsD (l h : Bool) : List D → Option (Option Int × Option Int)
  | [] => if l || h then none else some (none, none)
  | [a] => (partD a).bind fun i => if l && !h then some (i, none) else if h && !l then some (none, i) else none
  | [a, b] => (partD a).bind fun i => (partD b).bind fun j => if l && h then some (i, j) else none
  | _ => none
def cutD : D → Option Int → Option Int → Option D
  | .str xs, lo, hi => if xs.length ≤ bigLine then some (.str (cut xs lo hi)) else none
  | .lst _ xs, lo, hi => if cleans xs then some (.lst true (cut xs lo hi)) else none
  | _, _, _ => none
def semSl (l h : Bool) : List D → Option D
  | x :: r => (partsD l h r).bind fun p => cutD x p.1 p.2
  | _ => none
def semRev : D → Option D
  | .str xs => if xs.length ≤ bigLine then some (.str xs.reverse) else none
  | _ => none
def semLen : D → Option D
  | .str xs => if xs.length ≤ bigLine then some (.int xs.length) else none
  | .lst _ xs => some (.int xs.length)
  | .tup xs => some (.int xs.length)
  | _ => none
def semSorted : D → Option D
  | .lst _ xs => (allInt xs).map fun ns => .lst true ((sortI ns).map .int)
  | .dic _ ks _ => (allInt ks).map fun ns => .lst true ((sortI ns).map .int)
  | _ => none
/-- sorted(set(..)) of texts of one sign -/
def semSset : D → Option D
  | .lst _ xs => (allSign xs).bind fun cs => if cs.length < 64 then some (.lst true ((sortC cs).map fun c => .str [c])) else none
  | _ => none
def semTuple : D → Option D
  | .lst _ xs => if cleans xs then some (.tup xs) else none
  | .tup xs => if cleans xs then some (.tup xs) else none
  | _ => none
def semList : D → Option D
  | .lst _ xs => if cleans xs then some (.lst true xs) else none
  | .tup xs => if cleans xs then some (.lst true xs) else none
  | _ => none
def semAll : D → Option D
  | .lst _ xs => (allBl xs).map fun bs => .bl (bs.all id)
  | _ => none
def semAny : D → Option D
  | .lst _ xs => (allBl xs).map fun bs => .bl (bs.any id)
  | _ => none
def semJoin : D → D → Option D
  | .str s, .lst _ xs => (allStr xs).bind fun ys => if (ys.map List.length).sum + ys.length * s.length ≤ 16777216 then some (.str (joinL s ys)) else none
  | _, _ => none
def isTupD : D → Bool
  | .tup _ => true
  | _ => false
/-- a thing's kind -/
def tyN : D → Nat
  | .str _ => 0 | .bl _ => 1 | .int _ => 2 | .lst _ _ => 3 | .tup _ => 4 | .dic _ ks _ => if ks.any isTupD then 7 else 5 | .non => 6 | .hole => 7
def isiB (t k : Nat) : Bool := t == k || (k == 2 && t == 1)
def semIsi (k : Nat) (d : D) : Option D := if decide (k < 6) && decide (tyN d < 7) then some (.bl (isiB (tyN d) k)) else none
def semToInt : D → Option D
  | .int i => some (.int i)
  | .bl b => some (.int (if b then 1 else 0))
  | _ => none
/-- text.replace(one sign, text) -/
def semRepl (y z : List Nat) : D → Option D
  | .str xs => match y with
    | [c] => if decide (xs.length + (xs.length + 1) * z.length ≤ bigLine) then some (.str (xs.flatMap fun x => if x = c then z else [x])) else none
    | _ => none
  | _ => none
def opSem : Op → List D → Option D
  | .add => sem2 semAdd
  | .sub => sem2 semSub
  | .mul => sem2 semMul
  | .fdiv => sem2 semDiv
  | .md => sem2 semMod
  | .pow => sem2 semPow
  | .eq => sem2 fun a b => (eqD a b).map .bl
  | .ne => sem2 fun a b => (eqD a b).map fun r => .bl (!r)
  | .lt => sem2 (semCmp (fun i j => decide (i < j)) fun a _ => a)
  | .le => sem2 (semCmp (fun i j => decide (i ≤ j)) fun _ b => !b)
  | .gt => sem2 (semCmp (fun i j => decide (j < i)) fun _ b => b)
  | .ge => sem2 (semCmp (fun i j => decide (j ≤ i)) fun a _ => !a)
  | .isin => sem2 fun a b => (semIn a b).map .bl
  | .notin => sem2 fun a b => (semIn a b).map fun r => .bl (!r)
  | .isN => sem1 fun a => some (.bl (isNon a))
  | .notN => sem1 fun a => some (.bl (!isNon a))
  | .ix => sem2 semIx
  | .sl l h => semSl l h
  | .rev => sem1 semRev
  | .len => sem1 semLen
  | .sorted => sem1 semSorted
  | .tuple => sem1 semTuple
  | .list => sem1 semList
  | .all => sem1 semAll
  | .any => sem1 semAny
  | .join => sem2 semJoin
  | .isi k => sem1 (semIsi k)
  | .toInt => sem1 semToInt
  | .sset => sem1 semSset
  | .repl i y z => sem1 fun a => (semIx a (.int i)).bind (semRepl y z)

def opV (o : Op) (ds : List D) : Option D := if ds.any isHole then none else opSem o ds
/-- truth -/
def truth : D → Option Bool
  | .non => some false
  | .bl b => some b
  | .int i => some (i != 0)
  | .str s => if s.length ≤ bigLine then some (s.length != 0) else none
  | .lst _ xs => some (!xs.isEmpty)
  | .tup xs => some (!xs.isEmpty)
  | _ => none

/-! ### syntax -/
inductive Tg where
  | nm (i : Nat)
  | tp (is : List Nat)
  | tn (is : List Nat) (j : Nat)
mutual
inductive ME where
  | c (d : D) | dnew | d1 (k v : ME)
  | thaw (i : Nat) (m : ME)
  | l4r (a b : ME) (k : Int) (i : Nat) (y z : List Nat) (c : ME)
  | gc (x : Str) (d : D)
  | cp (i : Nat) | sh (i : Nat) | mv (i : Nat) | bw (i : Nat) | bm (i : Nat)
  | op (o : Op) (as : MEs) | dsp (t : Bool) (as : MEs)
  | and (a b : ME) | or (a b : ME) | not (a : ME) | ife (c a b : ME) | orT (a b : ME)
  | chain (o o' : Op) (a b c : ME)
  | call (f : Nat) (as : MEs)
  | lc (own : List Nat) (tg : Tg) (it : MI) (cond elt : ME)
inductive MEs where
  | nil
  | cons (a : ME) (r : MEs)
inductive MI where
  | rng1 (a : ME) | rng2 (a b : ME) | seq (a : ME) | enum (a : ME) | zip (a b : ME)
end
mutual
inductive MS where
  | as (i : Nat) (e : ME)
  | asT (is : List Nat) (e : ME)
  | asN (is : List Nat) (j : Nat) (e : ME)
  | seti (i : Nat) (k e : ME)
  | app (i : Nat) (e : ME)
  | ins (i : Nat) (k e : ME)
  | aug (i : Nat) (o : Op) (e : ME)
  | ex (e : ME)
  | ife (c : ME) (a b : MSs)
  | wh (c : ME) (b : MSs)
  | for (tg : Tg) (it : MI) (b : MSs)
  | ret (e : ME) | retN | brk | cnt | pass
inductive MSs where
  | nil
  | cons (a : MS) (r : MSs)
end

/-! ### the interpreter -/
def setAll : List Nat → List D → Env → Option Env
  | [], [], e => some e
  | i :: is, d :: ds, e => setAll is ds (e.set i d)
  | _, _, _ => none
def store (pins : List Nat) : Tg → D → Env → Option Env
  | .nm i, d, e => if pins.contains i then none else some (e.set i d)
  | .tp is, .tup xs, e => if is.any pins.contains then none else setAll is xs e
  | .tn is j, .tup [.tup xs, d], e => if is.any pins.contains || pins.contains j then none else (setAll is xs e).map fun e1 => e1.set j d
  | _, _, _ => none
/-- the places lent to operators, as they stand at the end -/
def fix : MEs → List D → Env → List D
  | .cons (.bw i) r, _ :: ds, e => get e i :: fix r ds e
  | .cons _ r, d :: ds, e => d :: fix r ds e
  | _, _, _ => []
/-- the places lent to a call are taken -/
def lend : MEs → List D → Env → Option (List D × Env)
  | .cons (.bm i) r, _ :: ds, e => match lend r ds (e.set i .hole) with
    | some (ds', e') => some (get e i :: ds', e')
    | none => none
  | .cons _ r, d :: ds, e => match lend r ds e with
    | some (ds', e') => some (d :: ds', e')
    | none => none
  | .nil, [], e => some ([], e)
  | _, _, _ => none
/-- .. and given back -/
def back : MEs → List D → Env → Env
  | .cons (.bm i) r, d :: ds, e => back r ds (e.set i d)
  | .cons _ r, _ :: ds, e => back r ds e
  | _, _, e => e
def wipeE (e : Env) : List Nat → Env
  | [] => e
  | i :: is => (wipeE e is).set i .hole
/-- what may be changed is out of sight -/
def hideE (e : Env) : Env := e.map fun d => if clean d then d else .hole
def ownC : D → Bool
  | .lst true xs => cleans xs
  | _ => false
def putE (e0 : Env) : Env → List Nat → Env
  | e, [] => e
  | e, i :: is => putE e0 (e.set i (get e0 i)) is
def compL (step : D → Env → R (Option D)) : List D → Env → R (List D)
  | [], e => .ok [] e
  | x :: xs, e => (step x e).bind fun o e1 => (compL step xs e1).bind fun ds e2 => match o with
    | some d => .ok (d :: ds) e2
    | none => .ok ds e2
def chars (s : List Nat) : List D := s.map fun c => .str [c]
def enumD (n : Nat) : List D → List D
  | [] => []
  | x :: xs => .tup [.int n, x] :: enumD (n + 1) xs
def zipD : List D → List D → List D
  | x :: xs, y :: ys => .tup [x, y] :: zipD xs ys
  | _, _ => []
/-- one turn of a comprehension -/
def turnR (own : List Nat) (tg : Tg) (cf : Env → R Bool) (ef : Env → R D) (x : D) (e : Env) : R (Option D) :=
  (R.of (store [] tg x e) e).bind fun e3 _ => (cf e3).bind fun k e4 => match k with
    | true => (ef e4).bind fun d e5 => .ok (some d) (wipeE e5 own)
    | false => .ok none (wipeE e4 own)
abbrev CallF := Nat → List D → Option (D × List D)
def truthR (r : R D) : R Bool := r.bind fun d e => R.of (truth d) e
section
variable (call : CallF)
mutual
def mev : ME → Env → R D
  | .c d, e => .ok d e
  | .dnew, e => .ok (.dic true [] []) e
  | .d1 k v, e => (mev k e).bind fun kd e1 => (mev v e1).bind fun vd e2 => if keyT kd && whole vd then .ok (.dic true [kd] [vd]) e2 else .no
  | .l4r a b k i y z c, e => (mev a e).bind fun d1 e1 => (mev b e1).bind fun d2 e2 => match d2 with
    | .str xs => if xs.length ≤ bigLine then match get e2 i with
      | .str us => match semRepl y z (.str us) with
        | some (.str d3) => (mev c e2).bind fun d4 e4 => if whole d1 && whole d4 then .ok (.lst true [d1, .str (cut xs none (some k)), .str d3, d4]) e4 else .no
        | _ => .no
      | _ => .no
      else .no
    | _ => .no
  | .thaw i m, e => match mev m ((hideE e).set i (frz (get e i))) with
    | .ok d _ => if loose d && ownC (get e i) then .ok d e else .no
    | .no => .no
  | .gc _ d, e => .ok d e
  | .cp i, e => if clean (get e i) then .ok (get e i) e else .no
  | .sh i, e => if whole (get e i) then .ok (frz (get e i)) (e.set i (frz (get e i))) else .no
  | .mv i, e => if whole (get e i) then .ok (get e i) (e.set i .hole) else .no
  | .bw i, e => if isHole (get e i) then .no else .ok .hole e
  | .bm i, e => if isHole (get e i) then .no else .ok .hole e
  | .op o as, e => (mevs as e).bind fun ds e1 => R.of (opV o (fix as ds e1)) e1
  | .dsp t as, e => (mevs as e).bind fun ds e1 => if wholes ds && decide (ds.length ≤ bigLine) then .ok (if t then .tup ds else .lst true ds) e1 else .no
  | .and a b, e => (mev a e).bind fun d e1 => match d with
    | .bl true => mev b e1
    | .bl false => .ok (.bl false) e1
    | _ => .no
  | .or a b, e => (mev a e).bind fun d e1 => match d with
    | .bl true => .ok (.bl true) e1
    | .bl false => mev b e1
    | _ => .no
  | .not a, e => (mev a e).bind fun d e1 => match d with
    | .bl c => .ok (.bl (!c)) e1
    | _ => .no
  | .orT a b, e => (mev a e).bind fun d e1 => match truth d with
    | some true => .ok d e1
    | some false => mev b e1
    | none => .no
  | .ife c a b, e => (truthR (mev c e)).bind fun k e1 => match k with
    | true => mev a e1
    | false => mev b e1
  | .chain o o' a b c, e => (mev a e).bind fun x e1 => (mev b e1).bind fun y e2 => match opV o [x, y] with
    | some (.bl true) => (mev c e2).bind fun z e3 => R.of (opV o' [y, z]) e3
    | some (.bl false) => .ok (.bl false) e2
    | _ => .no
  | .call f as, e => (mevs as e).bind fun ds e1 => match lend as ds e1 with
    | some (ds', e2) => match call f ds' with
      | some (d, outs) => .ok d (back as outs e2)
      | none => .no
    | none => .no
  | .lc own tg it cond elt, e => (mit it e).bind fun items e1 =>
    (compL (turnR own tg (fun e => truthR (mev cond e)) (fun e => mev elt e)) items (wipeE e1 own)).bind fun ds e6 => if ds.length ≤ bigLine then .ok (.lst true ds) (putE e1 e6 own) else .no
def mevs : MEs → Env → R (List D)
  | .nil, e => .ok [] e
  | .cons a r, e => (mev a e).bind fun d e1 => (mevs r e1).bind fun ds e2 => .ok (d :: ds) e2
def mit : MI → Env → R (List D)
  | .rng1 a, e => (mev a e).bind fun d e1 => match d with
    | .int n => if smallI n then .ok ((List.range n.toNat).map fun (i : Nat) => D.int i) e1 else .no
    | _ => .no
  | .rng2 a b, e => (mev a e).bind fun d e1 => (mev b e1).bind fun d' e2 => match d, d' with
    | .int m, .int n => if smallI m && smallI n then .ok ((List.range (n - m).toNat).map fun (i : Nat) => D.int (m + i)) e2 else .no
    | _, _ => .no
  | .seq a, e => (mev a e).bind fun d e1 => match d with
    | .lst _ xs => if wholes xs then .ok (frzs xs) e1 else .no
    | .tup xs => if wholes xs then .ok (frzs xs) e1 else .no
    | .str s => .ok (chars s) e1
    | _ => .no
  | .enum a, e => (mev a e).bind fun d e1 => match d with
    | .lst _ xs => if wholes xs then .ok (enumD 0 (frzs xs)) e1 else .no
    | _ => .no
  | .zip a b, e => (mev a e).bind fun d e1 => (mev b e1).bind fun d' e2 => match d, d' with
    | .lst _ xs, .lst _ ys => if wholes xs && wholes ys then .ok (zipD (frzs xs) (frzs ys)) e2 else .no
    | _, _ => .no
end
end

inductive Out where
  | nx | ret (d : D) | brk | cnt
def forL (body : D → Env → R Out) : List D → Env → R Out
  | [], e => .ok .nx e
  | x :: xs, e => (body x e).bind fun o e1 => match o with
    | .nx => forL body xs e1
    | .cnt => forL body xs e1
    | .brk => .ok .nx e1
    | .ret d => .ok (.ret d) e1
def whileL (cond : Env → R Bool) (body : Env → R Out) : Nat → Env → R Out
  | 0, _ => .no
  | n + 1, e => (cond e).bind fun k e1 => match k with
    | false => .ok .nx e1
    | true => (body e1).bind fun o e2 => match o with
      | .nx => whileL cond body n e2
      | .cnt => whileL cond body n e2
      | .brk => .ok .nx e2
      | .ret d => .ok (.ret d) e2
def cntI : List D → Int → Nat
  | .int j :: ks, k => (if j = k then 1 else 0) + cntI ks k
  | _ :: ks, k => cntI ks k
  | [], _ => 0
/-- put into a dict with int keys -/
def putD (ks vs : List D) (k : Int) (d : D) : List D × List D := match ks, vs with
  | .int j :: ks, v :: vs => if j = k then (.int j :: ks, d :: vs) else let r := putD ks vs k d; (.int j :: r.1, v :: r.2)
  | _, _ => ([.int k], [d])
/-- .. with keys that are tuples -/
def putN (ks vs : List D) (k d : D) : List D × List D := match ks, vs with
  | j :: ks, v :: vs => if sameN j k then (j :: ks, d :: vs) else let r := putN ks vs k d; (j :: r.1, v :: r.2)
  | _, _ => ([k], [d])
def setSem : D → D → D → Option D
  | .lst true xs, .int k, d => (L2.ixN xs.length k).map fun j => .lst true (xs.set j d)
  | .dic true ks vs, .int k, d => if (allInt ks).isSome && decide (ks.length < bigLine) && decide (ks.length = vs.length) && decide (cntI ks k ≤ 1) then (let r := putD ks vs k d; some (.dic true r.1 r.2)) else none
  | .dic true ks vs, .tup xs, d => if keyT (.tup xs) && ks.all keyT && decide (ks.length < bigLine) && decide (ks.length = vs.length) then (let r := putN ks vs (.tup xs) d; some (.dic true r.1 r.2)) else none
  | _, _, _ => none
def isOwn : D → Bool
  | .lst true _ => true
  | _ => false
def appSem : D → D → Option D
  | .lst true xs, d => if xs.length < bigLine then some (.lst true (xs ++ [d])) else none
  | _, _ => none
def insSem : D → D → D → Option D
  | .lst true xs, .int k, d => if decide (xs.length < bigLine) && decide (0 ≤ k) && decide (k < 2 ^ 63) then some (.lst true (xs.take k.toNat ++ d :: xs.drop k.toNat)) else none
  | _, _, _ => none
def augSem : Op → D → D → Option D
  | .add, .int i, .int j => some (.int (i + j))
  | .sub, .int i, .int j => some (.int (i - j))
  | .add, .str x, .str y => if x.length + y.length ≤ bigLine then some (.str (x ++ y)) else none
  | _, _, _ => none
section
variable (call : CallF) (B : Nat) (pins : List Nat)
mutual
def mex : MS → Env → R Out
  | .as i a, e => (mev call a e).bind fun d e1 => (R.of (store pins (.nm i) d e1) e1).bind fun e2 _ => .ok .nx e2
  | .asT is a, e => (mev call a e).bind fun d e1 => (R.of (store pins (.tp is) d e1) e1).bind fun e2 _ => .ok .nx e2
  | .asN is j a, e => (mev call a e).bind fun d e1 => (R.of (store pins (.tn is j) d e1) e1).bind fun e2 _ => .ok .nx e2
  | .seti i k a, e => (mev call a e).bind fun d e1 => if isHole (get e1 i) then .no else (mev call k e1).bind fun kd e2 => (R.of (setSem (get e2 i) kd d) e2).bind fun x e3 => .ok .nx (e3.set i x)
  | .app i a, e => if isOwn (get e i) then (mev call a e).bind fun d e1 => (R.of (appSem (get e1 i) d) e1).bind fun x e2 => .ok .nx (e2.set i x) else .no
  | .ins i k a, e => if isOwn (get e i) then (mev call k e).bind fun kd e1 => (mev call a e1).bind fun d e2 => (R.of (insSem (get e2 i) kd d) e2).bind fun x e3 => .ok .nx (e3.set i x) else .no
  | .aug i o a, e => if pins.contains i then .no else (mev call a e).bind fun d e1 => (R.of (augSem o (get e i) d) e1).bind fun x e2 => .ok .nx (e2.set i x)
  | .ex a, e => (mev call a e).bind fun _ e1 => .ok .nx e1
  | .ife c a b, e => (truthR (mev call c e)).bind fun k e1 => match k with
    | true => mexs a e1
    | false => mexs b e1
  | .wh c b, e => whileL (fun e => truthR (mev call c e)) (fun e => mexs b e) B e
  | .for tg it b, e => (mit call it e).bind fun items e1 => forL (fun x e2 => (R.of (store pins tg x e2) e2).bind fun e3 _ => mexs b e3) items e1
  | .ret a, e => (mev call a e).bind fun d e1 => .ok (.ret d) e1
  | .retN, e => .ok (.ret .non) e
  | .brk, e => .ok .brk e
  | .cnt, e => .ok .cnt e
  | .pass, e => .ok .nx e
def mexs : MSs → Env → R Out
  | .nil, e => .ok .nx e
  | .cons a r, e => (mex a e).bind fun o e1 => match o with
    | .nx => mexs r e1
    | o => .ok o e1
end
end
/-- a def: how many names, how many parameters, those that may be lent (never stored anew), the body -/
structure MD where
  n : Nat
  np : Nat
  pins : List Nat
  body : MSs
def outsOf (d : MD) (e : Env) : List D := (List.range d.np).map fun i => if d.pins.contains i then get e i else .hole
def mrun (call : CallF) (B : Nat) (d : MD) (args : List D) : Option (D × List D) := match args.length == d.np with
  | true => match mexs call B d.pins d.body (args ++ List.replicate (d.n - d.np) .hole) with
    | .ok (.ret r) e => some (r, outsOf d e)
    | .ok .nx e => some (.non, outsOf d e)
    | _ => none
  | false => none
def mcall (B : Nat) (T : List MD) : Nat → CallF
  | 0, _, _ => none
  | n + 1, f, args => match T[f]? with
    | some d => mrun (mcall B T n) B d args
    | none => none
end Mp
/-! How data stands in the abstract heap: G is what is never changed again, the addresses told are those that may be. -/
namespace Mp
open PySem L2

/-- the written part and the World -/
structure KW where
  K : PySem.W.Frag
  w : World
abbrev _root_.L2.Cx.kw (X : L2.Cx) : KW := ⟨X.K, X.w⟩
mutual
theorem frz_keyD : ∀ d : D, keyD d = true → frz d = d
  | .int i, _ => by simp [frz]
  | .tup xs, h => by rw [frz, frz_keyDs xs (by simpa [keyD] using h)]
  | .hole, h => by simp [keyD] at h
  | .non, h => by simp [keyD] at h
  | .bl _, h => by simp [keyD] at h
  | .str _, _ => by simp [frz]
  | .lst _ _, h => by simp [keyD] at h
  | .dic _ _ _, h => by simp [keyD] at h
theorem frz_keyDs : ∀ ds : List D, keyDs ds = true → frzs ds = ds
  | [], _ => by rw [frzs]
  | d :: ds, h => by
    rw [keyDs, Bool.and_eq_true] at h
    rw [frzs, frz_keyD d h.1, frz_keyDs ds h.2]
end
mutual
theorem clean_keyD : ∀ d : D, keyD d = true → clean d = true
  | .int i, _ => by simp [clean]
  | .tup xs, h => by rw [clean]; exact clean_keyDs xs (by simpa [keyD] using h)
  | .hole, h => by simp [keyD] at h
  | .non, h => by simp [keyD] at h
  | .bl _, h => by simp [keyD] at h
  | .str _, _ => by simp [clean]
  | .lst _ _, h => by simp [keyD] at h
  | .dic _ _ _, h => by simp [keyD] at h
theorem clean_keyDs : ∀ ds : List D, keyDs ds = true → cleans ds = true
  | [], _ => by rw [cleans]
  | d :: ds, h => by
    rw [keyDs, Bool.and_eq_true] at h
    rw [cleans, clean_keyD d h.1, clean_keyDs ds h.2]
    rfl
end
theorem keyT_D : ∀ {d : D}, keyT d = true → keyD d = true
  | .tup xs, h => by
    rw [keyT, Bool.and_eq_true] at h
    rw [keyD]
    exact h.1
theorem keyTs_D : ∀ {ds : List D}, ds.all keyT = true → keyDs ds = true
  | [], _ => by rw [keyDs]
  | d :: ds, h => by
    rw [List.all_cons, Bool.and_eq_true] at h
    rw [keyDs, keyT_D h.1, keyTs_D h.2]
    rfl
/-- entries told twice: with the abstract values, with the model's -/
abbrev PU : List (NestedKey × Addr × V) → List (NestedKey × Addr × Value) → Prop := Paired fun p q => p.1 = q.1 ∧ p.2.1 = q.2.1 ∧ RelV p.2.2 q.2.2
/-- a dict whose keys are tuples of whole numbers, nested; what is true of its one object -/
def dNφ (w : World) (a : Addr) (xs : List (NestedKey × Addr × V)) (h : Heap) : Prop := (a == sysModules) = false ∧ xs.length ≤ sizeLine ∧ (xs.map (·.1)).Nodup ∧
  ∃ (us : List (NestedKey × Addr × Value)), PU xs us ∧ ∃ o es ep, h.get? a = some o ∧ o.ExactDict ∧ o.data = .dict es ep ∧ es.toList = us.map fun x => (⟨x.1.hash w, .ref x.2.1, x.2.2⟩ : DictEntry)
def dN (w : World) (a : Addr) (xs : List (NestedKey × Addr × V)) : HO := .ext (dNφ w a xs)
mutual
/-- v is the key k -/
inductive NK (K : PySem.W.Frag) (H : Hp) : NestedKey → V → Prop
  | num (i : Int) : NK K H (.num i) (.int i)
  | text (s : List Nat) : NK K H (.text ⟨s.toArray⟩) (.str ⟨s.toArray⟩)
  | tup {a : Addr} {vs : List V} {ks : List NestedKey} : SqT K H a vs → NKs K H ks vs → NK K H (.tup ks) (.ref a)
inductive NKs (K : PySem.W.Frag) (H : Hp) : List NestedKey → List V → Prop
  | nil : NKs K H [] []
  | cons {k : NestedKey} {v : V} {ks : List NestedKey} {vs : List V} : NK K H k v → NKs K H ks vs → NKs K H (k :: ks) (v :: vs)
end
def keyV (k : Key) : D := match k with
  | .inl i => .int i
  | .inr s => .str s.cps.toList
mutual
inductive RV (K : KW) (G H : Hp) : V → D → List Addr → Prop
  | hole (v : V) : RV K G H v .hole []
  | non : RV K G H .non .non []
  | bl (b : Bool) : RV K G H (.bl b) (.bl b) []
  | int (i : Int) : RV K G H (.int i) (.int i) []
  | str (s : List Nat) : RV K G H (.str ⟨s.toArray⟩) (.str s) []
  | tup {a : Addr} {vs : List V} {ds : List D} {ws : List Addr} : SqT K.K G a vs → RVs K G H vs ds ws → RV K G H (.ref a) (.tup ds) ws
  | own {a : Addr} {vs : List V} {ds : List D} {ws : List Addr} : H a = some (.lst vs) → RVs K G H vs ds ws → RV K G H (.ref a) (.lst true ds) (a :: ws)
  | frz {a : Addr} {vs : List V} {ds : List D} {ws : List Addr} : SqL K.K G a vs → RVs K G H vs ds ws → ws = [] → RV K G H (.ref a) (.lst false ds) ws
  | dic {a : Addr} {kvs : List (Key × V)} {ds : List D} {ws : List Addr} : H a = some (.dK kvs) → RVs K G H (kvs.map (·.2)) ds ws → RV K G H (.ref a) (.dic true (kvs.map fun p => keyV p.1) ds) (a :: ws)
  | dicF {a : Addr} {kvs : List (Key × V)} {ds : List D} {ws : List Addr} : G a = some (.dK kvs) → RVs K G H (kvs.map (·.2)) ds ws → ws = [] → RV K G H (.ref a) (.dic false (kvs.map fun p => keyV p.1) ds) ws
  | dicN {a : Addr} {xs : List (NestedKey × Addr × V)} {ks ds : List D} {ws : List Addr} : H a = some (dN K.w a xs) → xs ≠ [] → xs.map (·.1) = nksOf ks → ks.all keyT = true → (∀ x ∈ xs, NK K.K G x.1 (.ref x.2.1)) → RVs K G H (xs.map (·.2.2)) ds ws → RV K G H (.ref a) (.dic true ks ds) (a :: ws)
  | dicNF {a : Addr} {xs : List (NestedKey × Addr × V)} {ks ds : List D} {ws : List Addr} : G a = some (dN K.w a xs) → xs ≠ [] → xs.map (·.1) = nksOf ks → ks.all keyT = true → (∀ x ∈ xs, NK K.K G x.1 (.ref x.2.1)) → RVs K G H (xs.map (·.2.2)) ds ws → ws = [] → RV K G H (.ref a) (.dic false ks ds) ws
inductive RVs (K : KW) (G H : Hp) : List V → List D → List Addr → Prop
  | nil : RVs K G H [] [] []
  | cons {v : V} {vs : List V} {d : D} {ds : List D} {o1 o2 : List Addr} : RV K G H v d o1 → RVs K G H vs ds o2 → RVs K G H (v :: vs) (d :: ds) (o1 ++ o2)
end
theorem SqL.keep {K : PySem.W.Frag} {G G' : Hp} {a : Addr} {xs : List V} (e : Same G G') (h : SqL K G a xs) : SqL K G' a xs := e.seq h
theorem SqT.keep {K : PySem.W.Frag} {G G' : Hp} {a : Addr} {xs : List V} (e : Same G G') (h : SqT K G a xs) : SqT K G' a xs := by
  rcases h with (h | ⟨o, h⟩) | h
  · exact .inl (.inl (e _ _ h))
  · exact .inl (.inr ⟨o, e _ _ h⟩)
  · exact .inr h
mutual
theorem NK.keep {K : PySem.W.Frag} {G G' : Hp} (sg : Same G G') : ∀ {k : NestedKey} {v : V}, NK K G k v → NK K G' k v
  | _, _, .num i => .num i
  | _, _, .text s => .text s
  | _, _, .tup h r => .tup (SqT.keep sg h) (NKs.keep sg r)
theorem NKs.keep {K : PySem.W.Frag} {G G' : Hp} (sg : Same G G') : ∀ {k : List NestedKey} {v : List V}, NKs K G k v → NKs K G' k v
  | _, _, .nil => .nil
  | _, _, .cons h r => .cons (NK.keep sg h) (NKs.keep sg r)
end
theorem frz_key (k : Key) : frz (keyV k) = keyV k := by cases k <;> simp [keyV, frz]
theorem frzs_keys : ∀ kvs : List (Key × V), frzs (kvs.map fun p => keyV p.1) = kvs.map fun p => keyV p.1
  | [] => by simp [frzs]
  | p :: r => by simp [frzs, frz_key, frzs_keys r]
section
variable {K : KW} {G G' H H' : Hp}
mutual
theorem RV.move (sg : Same G G') : ∀ {v : V} {d : D} {ws : List Addr}, RV K G H v d ws → (∀ a ∈ ws, H' a = H a) → RV K G' H' v d ws
  | _, _, _, .hole v, _ => .hole v
  | _, _, _, .non, _ => .non
  | _, _, _, .bl b, _ => .bl b
  | _, _, _, .int i, _ => .int i
  | _, _, _, .str s, _ => .str s
  | _, _, _, .tup h r, k => .tup (SqT.keep sg h) (RVs.move sg r k)
  | _, _, _, .own h r, k => .own ((k _ (List.mem_cons_self ..)).trans h) (RVs.move sg r fun a ha => k a (List.mem_cons_of_mem _ ha))
  | _, _, _, .frz h r e, k => .frz (SqL.keep sg h) (RVs.move sg r k) e
  | _, _, _, .dic h r, k => .dic ((k _ (List.mem_cons_self ..)).trans h) (RVs.move sg r fun a ha => k a (List.mem_cons_of_mem _ ha))
  | _, _, _, .dicF h r e, k => .dicF (sg _ _ h) (RVs.move sg r k) e
  | _, _, _, .dicN h n e c q r, k => .dicN ((k _ (List.mem_cons_self ..)).trans h) n e c (fun x hx => (q x hx).keep sg) (RVs.move sg r fun a ha => k a (List.mem_cons_of_mem _ ha))
  | _, _, _, .dicNF h n e c q r z, k => .dicNF (sg _ _ h) n e c (fun x hx => (q x hx).keep sg) (RVs.move sg r k) z
theorem RVs.move (sg : Same G G') : ∀ {vs : List V} {ds : List D} {ws : List Addr}, RVs K G H vs ds ws → (∀ a ∈ ws, H' a = H a) → RVs K G' H' vs ds ws
  | _, _, _, .nil, _ => .nil
  | _, _, _, .cons h r, k => .cons (RV.move sg h fun a ha => k a (List.mem_append_left _ ha)) (RVs.move sg r fun a ha => k a (List.mem_append_right _ ha))
end
mutual
/-- to be changed no more -/
theorem RV.freeze (sg : Same G G') : ∀ {v : V} {d : D} {ws : List Addr}, RV K G H v d ws → (∀ a ∈ ws, G' a = H a) → RV K G' H' v (Mp.frz d) []
  | _, _, _, .hole v, _ => .hole v
  | _, _, _, .non, _ => .non
  | _, _, _, .bl b, _ => .bl b
  | _, _, _, .int i, _ => .int i
  | _, _, _, .str s, _ => .str s
  | _, _, _, .tup h r, k => by rw [Mp.frz]; exact .tup (SqT.keep sg h) (RVs.freeze sg r k)
  | _, _, _, .own h r, k => by rw [Mp.frz]; exact .frz (.of ((k _ (List.mem_cons_self ..)).trans h)) (RVs.freeze sg r fun a ha => k a (List.mem_cons_of_mem _ ha)) rfl
  | _, _, _, .frz h r e, k => by rw [Mp.frz]; exact .frz (SqL.keep sg h) (RVs.freeze sg r k) rfl
  | _, _, _, .dic h r, k => by rw [Mp.frz, frzs_keys]; exact .dicF ((k _ (List.mem_cons_self ..)).trans h) (RVs.freeze sg r fun a ha => k a (List.mem_cons_of_mem _ ha)) rfl
  | _, _, _, .dicF h r e, k => by rw [Mp.frz, frzs_keys]; exact .dicF (sg _ _ h) (RVs.freeze sg r k) rfl
  | _, _, _, .dicN h n e c q r, k => by
    rw [Mp.frz, frz_keyDs _ (keyTs_D c)]
    exact .dicNF ((k _ (List.mem_cons_self ..)).trans h) n e c (fun x hx => (q x hx).keep sg) (RVs.freeze sg r fun a ha => k a (List.mem_cons_of_mem _ ha)) rfl
  | _, _, _, .dicNF h n e c q r z, k => by
    rw [Mp.frz, frz_keyDs _ (keyTs_D c)]
    exact .dicNF (sg _ _ h) n e c (fun x hx => (q x hx).keep sg) (RVs.freeze sg r k) rfl
theorem RVs.freeze (sg : Same G G') : ∀ {vs : List V} {ds : List D} {ws : List Addr}, RVs K G H vs ds ws → (∀ a ∈ ws, G' a = H a) → RVs K G' H' vs (Mp.frzs ds) []
  | _, _, _, .nil, _ => .nil
  | _, _, _, .cons h r, k => by
    rw [Mp.frzs]
    exact .cons (o1 := []) (o2 := []) (RV.freeze sg h fun a ha => k a (List.mem_append_left _ ha)) (RVs.freeze sg r fun a ha => k a (List.mem_append_right _ ha))
end
end
end Mp
namespace Mp
open PySem L2
section
variable {K : KW} {G G' H H' : Hp}
mutual
theorem RV.clean_nil : ∀ {v : V} {d : D} {ws : List Addr}, RV K G H v d ws → clean d = true → ws = []
  | _, _, _, .hole v, _ => rfl
  | _, _, _, .non, _ => rfl
  | _, _, _, .bl b, _ => rfl
  | _, _, _, .int i, _ => rfl
  | _, _, _, .str s, _ => rfl
  | _, _, _, .tup h r, c => RVs.clean_nil r (by simpa [clean] using c)
  | _, _, _, .own h r, c => by simp [clean] at c
  | _, _, _, .frz h r e, c => e
  | _, _, _, .dic h r, c => by simp [clean] at c
  | _, _, _, .dicF h r e, c => e
  | _, _, _, .dicN h n e q z r, c => by simp [clean] at c
  | _, _, _, .dicNF h n e q z r y, c => y
theorem RVs.clean_nil : ∀ {vs : List V} {ds : List D} {ws : List Addr}, RVs K G H vs ds ws → cleans ds = true → ws = []
  | _, _, _, .nil, _ => rfl
  | _, _, _, .cons h r, c => by
    rw [cleans, Bool.and_eq_true] at c
    rw [RV.clean_nil h c.1, RVs.clean_nil r c.2]
    rfl
end
/-- .. whatever the changeable heap -/
theorem RV.any (r : RV K G H v d []) : RV K G H' v d [] := r.move (fun _ _ h => h) fun _ ha => nomatch ha
theorem RVs.any (r : RVs K G H vs d []) : RVs K G H' vs d [] := r.move (fun _ _ h => h) fun _ ha => nomatch ha
theorem RVs.length : ∀ {vs : List V} {ds : List D} {ws : List Addr}, RVs K G H vs ds ws → vs.length = ds.length
  | _, _, _, .nil => rfl
  | _, _, _, .cons _ r => by simp [RVs.length r]
theorem RVs.app : ∀ {vs vs' : List V} {ds ds' : List D} {ws ws' : List Addr}, RVs K G H vs ds ws → RVs K G H vs' ds' ws' → RVs K G H (vs ++ vs') (ds ++ ds') (ws ++ ws')
  | _, _, _, _, _, _, .nil, s => s
  | _, _, _, _, _, _, .cons h r, s => by
    rw [List.append_assoc]
    exact .cons h (RVs.app r s)
end

/-! ### the frame's names -/
inductive RO (K : KW) (G H : Hp) : Option V → D → List Addr → Prop
  | none : RO K G H none .hole []
  | some {v : V} {d : D} {ws : List Addr} : RV K G H v d ws → RO K G H (some v) d ws
inductive RSl (K : KW) (G H : Hp) : L2.St → List D → List Addr → Prop
  | nil : RSl K G H [] [] []
  | cons {o : Option V} {σ : L2.St} {d : D} {e : List D} {o1 o2 : List Addr} : RO K G H o d o1 → RSl K G H σ e o2 → RSl K G H (o :: σ) (d :: e) (o1 ++ o2)
abbrev Fm := Addr → Nat
/-- told addresses: each once, none given away, all there -/
def Lin (G H : Hp) (c : Fm) : Prop := ∀ a, c a ≤ 1 ∧ (0 < c a → G a = none ∧ H a ≠ none)
/-- the frame σ holds e over G, H; F: what is held elsewhere -/
def Rep (K : KW) (σ : L2.St) (H G : Hp) (e : Env) (F : Fm) : Prop := ∃ ws, RSl K G H σ e ws ∧ Same G H ∧ Lin G H fun a => ws.count a + F a
def plus (ws : List Addr) (F : Fm) : Fm := fun a => ws.count a + F a
section
variable {K : KW} {G G' H H' : Hp} {σ : L2.St} {e : Env} {F F' : Fm}
theorem RO.move (sg : Same G G') {o : Option V} {d : D} {ws : List Addr} (r : RO K G H o d ws) (k : ∀ a ∈ ws, H' a = H a) : RO K G' H' o d ws := by
  cases r with
  | none => exact .none
  | some r => exact .some (r.move sg k)
theorem RSl.move (sg : Same G G') : ∀ {σ : L2.St} {e : List D} {ws : List Addr}, RSl K G H σ e ws → (∀ a ∈ ws, H' a = H a) → RSl K G' H' σ e ws
  | _, _, _, .nil, _ => .nil
  | _, _, _, .cons h r, k => .cons (h.move sg fun a ha => k a (List.mem_append_left _ ha)) (RSl.move sg r fun a ha => k a (List.mem_append_right _ ha))
theorem RSl.length : ∀ {σ : L2.St} {e : List D} {ws : List Addr}, RSl K G H σ e ws → σ.length = e.length
  | _, _, _, .nil => rfl
  | _, _, _, .cons _ r => by simp [RSl.length r]
/-- a slot taken out -/
theorem RSl.at : ∀ {σ : L2.St} {e : List D} {ws : List Addr} (i : Nat), RSl K G H σ e ws → i < e.length →
    ∃ (o : Option V) (o1 o2 : List Addr), σ[i]? = some o ∧ RO K G H o (get e i) o1 ∧ (∀ a, ws.count a = o1.count a + o2.count a) ∧
      ∀ (o' : Option V) (d' : D) (o1' : List Addr), RO K G H o' d' o1' → ∃ ws', RSl K G H (σ.set i o') (e.set i d') ws' ∧ ∀ a, ws'.count a = o1'.count a + o2.count a
  | _, _, _, i, .nil, h => by simp at h
  | _, _, _, 0, .cons (o := o) (d := d) (o1 := o1) (o2 := o2) h r, _ => by
    refine ⟨o, o1, o2, by simp, by simpa [get] using h, fun a => by rw [List.count_append], fun o' d' o1' h' => ⟨o1' ++ o2, by simpa using .cons h' r, fun a => by rw [List.count_append]⟩⟩
  | _, _, _, i + 1, .cons (o := o0) (d := d0) (o1 := p1) (o2 := p2) h r, hl => by
    obtain ⟨o, o1, o2, h1, h2, h3, h4⟩ := RSl.at i r (by simpa using hl)
    refine ⟨o, o1, p1 ++ o2, by simpa using h1, by simpa [get] using h2, fun a => ?_, fun o' d' o1' h' => ?_⟩
    · rw [List.count_append, List.count_append, h3]; omega
    · obtain ⟨ws', q1, q2⟩ := h4 o' d' o1' h'
      refine ⟨p1 ++ ws', by simpa using .cons h q1, fun a => ?_⟩
      rw [List.count_append, List.count_append, q2]; omega
theorem get_out {e : Env} {i : Nat} (h : ¬ i < e.length) : get e i = .hole := by
  unfold get
  rw [List.getD_eq_getElem?_getD, List.getElem?_eq_none (by omega)]
  rfl
theorem lt_of_get {e : Env} {i : Nat} (h : get e i ≠ .hole) : i < e.length := by
  by_cases hl : i < e.length
  · exact hl
  · exact absurd (get_out hl) h
theorem Lin.le (l : Lin G H F) (h : ∀ a, F' a ≤ F a) : Lin G H F' := fun a => ⟨Nat.le_trans (h a) (l a).1, fun z => (l a).2 (Nat.lt_of_lt_of_le z (h a))⟩
theorem Rep.le (r : Rep K σ H G e F) (h : ∀ a, F' a ≤ F a) : Rep K σ H G e F' := by
  obtain ⟨ws, r1, r2, r3⟩ := r
  exact ⟨ws, r1, r2, r3.le fun a => Nat.add_le_add_left (h a) _⟩
theorem Rep.same (r : Rep K σ H G e F) : Same G H := r.choose_spec.2.1
theorem count_pos {ws : List Addr} {a : Addr} : a ∈ ws ↔ 0 < ws.count a := List.count_pos_iff.symm
/-- new things are laid, nothing else: ws the new changeable ones -/
structure Eff (H G H' G' : Hp) (ws : List Addr) : Prop where
  same : Same H H'
  sg : Same G G'
  gh : Same G' H'
  old : ∀ a, H a ≠ none → G' a = G a
  new : ∀ a ∈ ws, H a = none ∧ H' a ≠ none ∧ G' a = none
  once : ∀ a, ws.count a ≤ 1
theorem Eff.refl (h : Same G H) : Eff H G H G [] := ⟨fun _ _ h => h, fun _ _ h => h, h, fun _ _ => rfl, fun _ h => (nomatch h), fun _ => by simp⟩
theorem Eff.keep (f : Eff H G H' G' ws) {a : Addr} (h : H a ≠ none) : H' a = H a := by
  cases q : H a with
  | none => exact absurd q h
  | some o => exact f.same a o q
theorem Eff.lin (f : Eff H G H' G' ws) (l : Lin G H F) : Lin G' H' (plus ws F) := fun a => by
  by_cases ha : a ∈ ws
  · obtain ⟨n1, n2, n3⟩ := f.new a ha
    have z : F a = 0 := by
      rcases Nat.eq_zero_or_pos (F a) with z | z
      · exact z
      · exact absurd n1 ((l a).2 z).2
    refine ⟨?_, fun _ => ⟨n3, n2⟩⟩
    unfold plus
    rw [z]
    exact f.once a
  · have z : ws.count a = 0 := List.count_eq_zero.mpr ha
    unfold plus
    simp only [z, Nat.zero_add]
    refine ⟨(l a).1, fun h => ?_⟩
    obtain ⟨q1, q2⟩ := (l a).2 h
    exact ⟨by rw [f.old a q2]; exact q1, by rw [f.keep q2]; exact q2⟩
theorem Rep.eff (r : Rep K σ H G e F) (f : Eff H G H' G' ws) : Rep K σ H' G' e (plus ws F) := by
  obtain ⟨o, r1, r2, r3⟩ := r
  refine ⟨o, r1.move f.sg fun a ha => f.keep ((r3 a).2 (by have := count_pos.mp ha; show 0 < o.count a + F a; omega)).2, f.gh, (f.lin r3).le fun a => ?_⟩
  show o.count a + (ws.count a + F a) ≤ ws.count a + (o.count a + F a)
  omega
theorem RV.eff (r : RV K G H v d ws) (f : Eff H G H' G' ws') (h : ∀ a ∈ ws, H a ≠ none) : RV K G' H' v d ws := r.move f.sg fun a ha => f.keep (h a ha)
/-- one thing laid, to be changed no more | to be changed -/
theorem Eff.lay {p : Addr} (h : Same G H) (hp : H p = none) (o : HO) : Eff H G (upd H p o) (upd G p o) [] := by
  have ng : G p = none := Same.free h hp
  refine ⟨fun a x q => ?_, fun a x q => ?_, fun a x q => ?_, fun a q => ?_, fun _ h => (nomatch h), fun _ => by simp⟩
  · rw [upd_ne (ne_of_none q hp)]; exact q
  · rw [upd_ne (ne_of_none q ng)]; exact q
  · by_cases e : a = p
    · rw [e, upd_same] at q; rw [e, upd_same]; exact q
    · rw [upd_ne e] at q; rw [upd_ne e]; exact h a x q
  · rw [upd_ne (fun z => q (by rw [z]; exact hp))]
theorem Eff.layO {p : Addr} (h : Same G H) (hp : H p = none) (o : HO) : Eff H G (upd H p o) G [p] := by
  have ng : G p = none := Same.free h hp
  refine ⟨fun a x q => ?_, fun _ _ q => q, fun a x q => ?_, fun _ _ => rfl, fun a ha => ?_, fun a => ?_⟩
  · rw [upd_ne (ne_of_none q hp)]; exact q
  · rw [upd_ne (ne_of_none q ng)]; exact h a x q
  · have e : a = p := by simpa using ha
    subst e
    exact ⟨hp, by rw [upd_same]; simp, ng⟩
  · rw [List.count_singleton]; split <;> omega
end
end Mp
/-! Readings of expressions by the interpreter; operators. -/
namespace Mp
open PySem L2
theorem PE.mono {X : Cx} {e : Expr} {t t' : TE} (h : PE X e t) (k : ∀ σ H Q, t' σ H Q → t σ H Q) : PE X e t' := ⟨fun pins s σ H Q I hw => h.run pins s σ H Q I (k σ H Q hw)⟩
theorem PT.mono {X : Cx} {e : Expr} {t t' : TT} (h : PT X e t) (k : ∀ σ H Q, t' σ H Q → t σ H Q) : PT X e t' := ⟨fun pins s σ H Q I hw => h.run pins s σ H Q I (k σ H Q hw)⟩
theorem PW.mono {X : Cx} {e : Expr} {t t' : TT} (h : PW X e t) (k : ∀ σ H Q, t' σ H Q → t σ H Q) : PW X e t' := ⟨fun wh pins s σ H Q I hw => h.run wh pins s σ H Q I (k σ H Q hw)⟩
theorem PS.mono {X : Cx} {e : Stmt} {t t' : TS} (h : PS X e t) (k : ∀ D σ H, t' D σ H → t D σ H) : PS X e t' := ⟨fun pins s σ H D I hw => h.run pins s σ H D I (k D σ H hw)⟩
theorem PSs.mono {X : Cx} {e : List Stmt} {t t' : TS} (h : PSs X e t) (k : ∀ D σ H, t' D σ H → t D σ H) : PSs X e t' := ⟨fun pins s σ H D I hw => h.run pins s σ H D I (k D σ H hw)⟩
theorem PI.mono {X : Cx} {tg e : Expr} {t t' : TI} (h : PI X tg e t) (k : ∀ σ H R, t' σ H R → t σ H R) : PI X tg e t' := ⟨fun pins s σ H R I hw => h.run pins s σ H R I (k σ H R hw)⟩
theorem PG.mono {X : Cx} {e : Expr} {t t' : TG} (h : PG X e t) (k : ∀ v σ H Q, t' v σ H Q → t v σ H Q) : PG X e t' := ⟨fun pins s σ H v u Q I r hw => h.run pins s σ H v u Q I r (k v σ H Q hw)⟩

/-- a place lent: its value -/
def AV (m : ME) (σ : L2.St) (v : V) : Prop := match m with
  | .bw i => σ[i]? = some (some v)
  | .bm i => σ[i]? = some (some v)
  | _ => True
section
variable (K : KW) (call : CallF)
def rd (m : ME) : TE := fun σ H Q => ∃ G e F d e', Rep K σ H G e F ∧ mev call m e = .ok d e' ∧
  ∀ v H' G' ws, RV K G' H' v d ws → Rep K σ H' G' e' (plus ws F) → Same G G' → (∀ a, 0 < F a → H' a = H a) → AV m σ v → Q v H'
def rdT (m : ME) : TT := fun σ H Q => ∃ G e F k e', Rep K σ H G e F ∧ truthR (mev call m e) = .ok k e' ∧
  ∀ H' G', Rep K σ H' G' e' F → Same G G' → (∀ a, 0 < F a → H' a = H a) → Q k H'
def tArgs : MEs → TA
  | .nil => tNil
  | .cons a r => tCons (rd K call a) (tArgs r)
def AVs : MEs → L2.St → List V → Prop
  | .cons a r, σ, v :: vs => AV a σ v ∧ AVs r σ vs
  | .nil, _, [] => True
  | _, _, _ => False
end
section
variable {K : KW} {call : CallF} {G G' H H' : Hp} {σ : L2.St} {e e' : Env} {F F' : Fm}
theorem plus_pos {ws : List Addr} {F : Fm} {a : Addr} (h : a ∈ ws) : 0 < plus ws F a := by
  have := count_pos.mp h
  unfold plus
  omega
theorem plus_pos' {ws : List Addr} {F : Fm} {a : Addr} (h : 0 < F a) : 0 < plus ws F a := by
  unfold plus
  omega
theorem args_run : ∀ (as : MEs) {H G : Hp} {e : Env} {F : Fm} {ds : List D} {e' : Env} {P : List V → Hp → Prop}, Rep K σ H G e F → mevs call as e = .ok ds e' →
    (∀ vs H' G' ws, RVs K G' H' vs ds ws → Rep K σ H' G' e' (plus ws F) → Same G G' → (∀ a, 0 < F a → H' a = H a) → AVs as σ vs → P vs H') → tArgs K call as σ H P
  | .nil, H, G, e, F, ds, e', P, rep, ev, k => by
    rw [mevs] at ev
    cases ev
    exact k [] H G [] .nil (rep.le fun a => by unfold plus; simp) (fun _ _ h => h) (fun _ _ => rfl) trivial
  | .cons a r, H, G, e, F, ds, e', P, rep, ev, k => by
    rw [mevs] at ev
    cases ea : mev call a e with
    | no => rw [ea] at ev; cases ev
    | ok d e1 =>
      rw [ea, bind_ok] at ev
      cases er : mevs call r e1 with
      | no => rw [er] at ev; cases ev
      | ok ds1 e2 =>
        rw [er, bind_ok] at ev
        cases ev
        refine ⟨G, e, F, d, e1, rep, ea, fun v H1 G1 w1 rv1 rep1 s1 k1 av1 => ?_⟩
        refine args_run r rep1 er fun vs H2 G2 w2 rvs rep2 s2 k2 av2 => ?_
        refine k (v :: vs) H2 G2 (w1 ++ w2) (.cons (rv1.move s2 fun a ha => k2 a (plus_pos ha)) rvs) (rep2.le fun a => ?_) (s1.trans s2) (fun a ha => (k2 a (plus_pos' ha)).trans (k1 a ha)) ⟨av1, av2⟩
        unfold plus
        rw [List.count_append]
        omega
/-- values that stand for data, whoever holds them -/
inductive RXs (K : KW) (G H : Hp) : List V → List D → Prop
  | nil : RXs K G H [] []
  | cons {v : V} {vs : List V} {d : D} {ds : List D} {ws : List Addr} : RV K G H v d ws → RXs K G H vs ds → RXs K G H (v :: vs) (d :: ds)
theorem isHole_ne {d : D} (h : isHole d = false) : d ≠ .hole := by
  rintro rfl
  cases h
/-- a slot that holds something -/
theorem Rep.slot (r : Rep K σ H G e F) {i : Nat} (h : get e i ≠ .hole) : ∃ v ws, σ[i]? = some (some v) ∧ RV K G H v (get e i) ws ∧ (∀ a ∈ ws, H a ≠ none) := by
  obtain ⟨os, r1, r2, r3⟩ := r
  obtain ⟨o, o1, o2, h1, h2, h3, h4⟩ := r1.at i (lt_of_get h)
  cases o with
  | none =>
    generalize get e i = d at h h2
    cases h2
    exact absurd rfl h
  | some v =>
    cases h2 with
    | some h2 =>
      refine ⟨v, o1, h1, h2, fun a ha => ?_⟩
      have z := (r3 a).2
      have q := count_pos.mp ha
      have q3 := h3 a
      exact (z (by show 0 < os.count a + F a; omega)).2
theorem fix_run : ∀ {as : MEs} {vs : List V} {ds : List D} {ws : List Addr} {e : Env}, RVs K G H vs ds ws → AVs as σ vs → Rep K σ H G e F → (∀ d ∈ fix as ds e, d ≠ .hole) → RXs K G H vs (fix as ds e)
  | .nil, vs, ds, ws, e, rvs, av, rep, nh => by
    cases vs with
    | nil => cases rvs; exact .nil
    | cons v vs => exact False.elim av
  | .cons a r, vs, ds, ws, e, rvs, av, rep, nh => by
    cases rvs with
    | nil => exact False.elim av
    | cons h1 h2 =>
      obtain ⟨a1, a2⟩ := av
      cases a with
      | bw i =>
        have nh' : ∀ d ∈ get e i :: fix r _ e, d ≠ .hole := nh
        show RXs K G H _ (get e i :: fix r _ e)
        obtain ⟨v', w', q1, q2, _⟩ := rep.slot (nh' _ (List.mem_cons_self ..))
        have e1 : σ[i]? = some (some _) := a1
        rw [q1] at e1
        cases e1
        exact .cons q2 (fix_run h2 a2 rep fun d hd => nh' d (List.mem_cons_of_mem _ hd))
      | _ => exact .cons h1 (fix_run h2 a2 rep fun d hd => nh d (List.mem_cons_of_mem _ hd))
end
end Mp
/-! The operators keep what the interpreter says. -/
namespace Mp
open PySem L2
/-- what follows an operator -/
def Cont (K : KW) (H G : Hp) (d : D) (Q : VK) : Prop := ∀ v H' G' ws, RV K G' H' v d ws → Eff H G H' G' ws → Q v H'
abbrev RL := List V → Hp → VK → Prop
/-- an operator by values does what opSem says -/
def OpOk (K : KW) (r : RL) (o : Op) : Prop := ∀ (vs : List V) (ds : List D) (d : D) (H G : Hp) (Q : VK), RXs K G H vs ds → Same G H → opSem o ds = some d → Cont K H G d Q → r vs H Q
def rL2 (r : R2) : RL := fun vs H Q => match vs with
  | [x, y] => r x y H Q
  | _ => False
def rL1 (r : V → Hp → VK → Prop) : RL := fun vs H Q => match vs with
  | [x] => r x H Q
  | _ => False
section
variable {K : KW} {call : CallF} {σ : L2.St} {H : Hp} {Q : VK}
theorem any_ne {ds : List D} (h : ds.any isHole = false) : ∀ d ∈ ds, d ≠ .hole := fun d hd => isHole_ne (by
  cases q : isHole d with
  | false => rfl
  | true =>
    rw [List.any_eq_false] at h
    exact absurd q (h d hd))
theorem opV_some {o : Op} {ds : List D} {d : D} (h : opV o ds = some d) : (∀ d ∈ ds, d ≠ .hole) ∧ opSem o ds = some d := by
  unfold opV at h
  split at h
  · cases h
  · rename_i q
    exact ⟨any_ne (by simpa using q), h⟩
theorem op_core {o : Op} {as : MEs} {r : RL} (ok : OpOk K r o) (h : rd K call (.op o as) σ H Q) : tArgs K call as σ H fun vs H1 => r vs H1 Q := by
  obtain ⟨G, e, F, d, e', rep, ev, k⟩ := h
  rw [mev] at ev
  cases ea : mevs call as e with
  | no => rw [ea] at ev; cases ev
  | ok ds e1 =>
    rw [ea, bind_ok] at ev
    cases eo : opV o (fix as ds e1) with
    | none => rw [eo] at ev; cases ev
    | some d1 =>
      rw [eo, of_some] at ev
      cases ev
      obtain ⟨nh, eo⟩ := opV_some eo
      refine args_run as rep ea fun vs H1 G1 w1 rvs rep1 s1 k1 av => ?_
      refine ok vs _ d H1 G1 Q (fix_run rvs av rep1 nh) rep1.same eo fun v H2 G2 w2 rv2 f => ?_
      refine k v H2 G2 w2 rv2 ((rep1.le fun a => ?_).eff f) (s1.trans f.sg) (fun a ha => ?_) trivial
      · unfold plus; omega
      · obtain ⟨os, _, _, l⟩ := rep1
        have z : H1 a ≠ none := ((l a).2 (by show 0 < os.count a + plus w1 F a; have := plus_pos' (ws := w1) ha; omega)).2
        exact (f.keep z).trans (k1 a ha)
theorem pe_op2 {X : Cx} {ex : Expr} {o : Op} {a b : ME} {r : R2} (ok : OpOk X.kw (rL2 r) o) (h : PE X ex (tOp r (rd X.kw call a) (rd X.kw call b))) : PE X ex (rd X.kw call (.op o (.cons a (.cons b .nil)))) :=
  Mp.PE.mono h fun σ H Q q => op_core (r := rL2 r) ok q
end

/-! ### inversions -/
section
variable {K : KW} {G H : Hp} {v : V} {ws : List Addr}
theorem RV.int_inv {i : Int} (h : RV K G H v (.int i) ws) : v = .int i := by cases h; rfl
theorem RV.bl_inv {i : Bool} (h : RV K G H v (.bl i) ws) : v = .bl i := by cases h; rfl
theorem RV.non_inv (h : RV K G H v .non ws) : v = .non := by cases h; rfl
theorem RV.str_inv {s : List Nat} (h : RV K G H v (.str s) ws) : v = .str ⟨s.toArray⟩ := by cases h; rfl
/-- a list, whoever holds it -/
theorem RV.lst_inv {o : Bool} {xs : List D} (sg : Same G H) (h : RV K G H v (.lst o xs) ws) : ∃ a vs, v = .ref a ∧ SqL K.K H a vs ∧ ∃ ws, RVs K G H vs xs ws := by
  cases h with
  | own h r => exact ⟨_, _, rfl, .of h, _, r⟩
  | frz h r e => exact ⟨_, _, rfl, sg.seq h, _, r⟩
theorem RV.tup_inv {xs : List D} (sg : Same G H) (h : RV K G H v (.tup xs) ws) : ∃ a vs, v = .ref a ∧ SqT K.K G a vs ∧ SqT K.K H a vs ∧ ∃ ws, RVs K G H vs xs ws := by
  cases h with
  | tup h r => exact ⟨_, _, rfl, h, SqT.keep sg h, _, r⟩
theorem RXs.two {vs : List V} {d1 d2 : D} (h : RXs K G H vs [d1, d2]) : ∃ v1 v2 w1 w2, vs = [v1, v2] ∧ RV K G H v1 d1 w1 ∧ RV K G H v2 d2 w2 := by
  cases h with
  | cons a r =>
    cases r with
    | cons b r =>
      cases r
      exact ⟨_, _, _, _, rfl, a, b⟩
theorem RXs.one {vs : List V} {d1 : D} (h : RXs K G H vs [d1]) : ∃ v1 w1, vs = [v1] ∧ RV K G H v1 d1 w1 := by
  cases h with
  | cons a r =>
    cases r
    exact ⟨_, _, rfl, a⟩
theorem RXs.three {vs : List V} {d1 d2 d3 : D} (h : RXs K G H vs [d1, d2, d3]) : ∃ v1 v2 v3 w1 w2 w3, vs = [v1, v2, v3] ∧ RV K G H v1 d1 w1 ∧ RV K G H v2 d2 w2 ∧ RV K G H v3 d3 w3 := by
  cases h with
  | cons a r =>
    cases r with
    | cons b r =>
      cases r with
      | cons c r =>
        cases r
        exact ⟨_, _, _, _, _, _, rfl, a, b, c⟩
/-- nothing is laid -/
theorem Cont.pure {d : D} {Q : VK} (k : Cont K H G d Q) (sg : Same G H) {v : V} (h : RV K G H v d []) : Q v H := k v H G [] h (Eff.refl sg)
/-- a new list -/
theorem Cont.list {xs : List D} {Q : VK} (k : Cont K H G (.lst true xs) Q) (sg : Same G H) {vs : List V} (h : RVs K G H vs xs []) : ∀ p, H p = none → Q (.ref p) (upd H p (.lst vs)) := fun p hp => by
  refine k (.ref p) _ G [p] (.own upd_same (ws := []) (h.move (fun _ _ q => q) fun _ hb => nomatch hb)) (Eff.layO sg hp _)
/-- a new tuple -/
theorem Cont.tuple {xs : List D} {Q : VK} (k : Cont K H G (.tup xs) Q) (sg : Same G H) {vs : List V} (h : RVs K G H vs xs []) : ∀ p, H p = none → Q (.ref p) (upd H p (.tup vs)) := fun p hp => by
  refine k (.ref p) _ (upd G p (.tup vs)) [] (.tup (.of upd_same) (h.move (Eff.lay sg hp _).sg fun _ hb => nomatch hb)) (Eff.lay sg hp _)
theorem size_str (s : List Nat) : (⟨s.toArray⟩ : Str).length = s.length := by
  show s.toArray.size = s.length
  simp
theorem app_str (s t : List Nat) : (⟨s.toArray⟩ : Str) ++ ⟨t.toArray⟩ = ⟨(s ++ t).toArray⟩ := by
  show Str.mk (s.toArray ++ t.toArray) = _
  simp
theorem big_eq : bigLine = sizeLine := by rw [sizeLine_eq]; rfl
end

/-! ### arithmetic -/
/-- xs + ys, whoever holds them -/
def rCatS (K : PySem.W.Frag) : R2 := fun x y H Q => ∃ l b xs zs, x = .ref l ∧ y = .ref b ∧ SqL K H l xs ∧ SqL K H b zs ∧ xs.length + zs.length ≤ sizeLine ∧ ∀ p, H p = none → Q (.ref p) (upd H p (.lst (xs ++ zs)))
theorem op_catS {X : Cx} : OpR X (binaryOp .Add) (rCatS X.K) := by
  intro pins s σ H x y v u Q I rx ry h
  obtain ⟨l, b, xs, zs, rfl, rfl, hH, hB, hz, q⟩ := h
  cases rx
  cases ry
  obtain ⟨its, r, ⟨⟨c1, d1, t1, sl1⟩, n, ho, hc, hd, hs⟩, z⟩ := I.list hH
  obtain ⟨its2, r2, ⟨⟨c2, d2, t2, sl2⟩, n2, ho2, hc2, hd2, hs2⟩, z2⟩ := I.list hB
  simp only at hc hd hs hc2 hd2 hs2
  subst hc hd hs hc2 hd2 hs2
  refine concat_meets ⟨_, ho, rfl⟩ ⟨_, ho2, rfl⟩ PySem.noFill_list_add PySem.seq_list_add PySem.F.slot_list_add PySem.F.entry_list_add (PySem.F.args_list_add_2 _ _)
    (PyProof.Rows.list_addW l b its.toArray its2.toArray n n2 none none sl1 sl2 (by rw [List.size_toArray, List.size_toArray, ← r.length, ← r2.length]; exact hz)) ⟨ho, ho2, ?_⟩
  have ea : its.toArray ++ its2.toArray = (its ++ its2).toArray := by simp
  rw [ea]
  exact ⟨.ref _, _, I.lnew (t' := s.toks) (r.append r2) (by rw [List.length_append]; omega), rfl, q _ I.fresh⟩
def rAddA (K : PySem.W.Frag) : R2 := fun x y H Q => (∃ i j, x = .int i ∧ y = .int j ∧ Q (.int (i + j)) H) ∨ (∃ i j, x = .str i ∧ y = .str j ∧ i.length + j.length ≤ sizeLine ∧ Q (.str (i ++ j)) H) ∨ rCatS K x y H Q
theorem op_addA {X : Cx} : OpR X (binaryOp .Add) (rAddA X.K) := op_add.or (op_add_str.or op_catS)
theorem sem2_some {f : D → D → Option D} {ds : List D} {d : D} (h : sem2 f ds = some d) : ∃ a b, ds = [a, b] ∧ f a b = some d := by
  match ds, h with
  | [a, b], h => exact ⟨a, b, rfl, h⟩
theorem sem1_some {f : D → Option D} {ds : List D} {d : D} (h : sem1 f ds = some d) : ∃ a, ds = [a] ∧ f a = some d := by
  match ds, h with
  | [a], h => exact ⟨a, rfl, h⟩
section
variable {K : KW}
theorem okx_add : OpOk K (rL2 (rAddA K.K)) .add := by
  intro vs ds d H G Q hr sg ho k
  obtain ⟨a, b, rfl, hf⟩ := sem2_some ho
  obtain ⟨v1, v2, w1, w2, rfl, h1, h2⟩ := hr.two
  unfold semAdd at hf
  split at hf
  · cases hf
    exact .inl ⟨_, _, h1.int_inv, h2.int_inv, k.pure sg (.int _)⟩
  · split at hf
    · rename_i hl
      cases hf
      refine .inr (.inl ⟨_, _, h1.str_inv, h2.str_inv, by rw [size_str, size_str, ← big_eq]; exact hl, ?_⟩)
      rw [app_str]
      exact k.pure sg (.str _)
    · cases hf
  · split at hf
    · rename_i hl
      cases hf
      simp only [Bool.and_eq_true, decide_eq_true_eq] at hl
      obtain ⟨l, xs, e1, s1, _, r1⟩ := h1.lst_inv sg
      obtain ⟨l2, xs2, e2, s2, _, r2⟩ := h2.lst_inv sg
      have n1 := r1.clean_nil hl.1.1
      have n2 := r2.clean_nil hl.1.2
      subst n1 n2
      refine .inr (.inr ⟨_, _, _, _, e1, e2, s1, s2, by rw [r1.length, r2.length, ← big_eq]; exact hl.2, k.list sg ?_⟩)
      exact r1.app r2
    · cases hf
  · cases hf
theorem okx_int2 {o : Op} {f : D → D → Option D} {C : Int → Int → Prop} {g : Int → Int → V} (hs : opSem o = sem2 f) (h : ∀ a b d, f a b = some d → ∃ i j, a = .int i ∧ b = .int j ∧ C i j ∧ ∀ K G H, RV K G H (g i j) d []) : OpOk K (rL2 (rI C g)) o := by
  intro vs ds d H G Q hr sg ho k
  rw [hs] at ho
  obtain ⟨a, b, rfl, hf⟩ := sem2_some ho
  obtain ⟨v1, v2, w1, w2, rfl, h1, h2⟩ := hr.two
  obtain ⟨i, j, rfl, rfl, c, q⟩ := h a b d hf
  exact ⟨i, j, h1.int_inv, h2.int_inv, c, k.pure sg (q _ _ _)⟩
theorem okx_sub : OpOk K (rL2 (rI0 fun i j => .int (i - j))) .sub := by
  intro vs ds d H G Q hr sg ho k
  obtain ⟨a, b, rfl, hf⟩ := sem2_some ho
  obtain ⟨v1, v2, w1, w2, rfl, h1, h2⟩ := hr.two
  unfold semSub at hf
  split at hf
  · cases hf
    exact ⟨_, _, h1.int_inv, h2.int_inv, k.pure sg (.int _)⟩
  · cases hf
theorem okx_div : OpOk K (rL2 (rI CDivW fun i j => .int (i / j))) .fdiv := okx_int2 rfl fun a b d h => by
  unfold semDiv at h
  split at h
  · split at h
    · rename_i hl
      cases h
      simp only [Bool.and_eq_true, decide_eq_true_eq] at hl
      exact ⟨_, _, rfl, rfl, wide_div (b := 60) hl.1 (by omega) (by decide) (by decide), fun _ _ _ => .int _⟩
    · cases h
  · cases h
theorem okx_mod : OpOk K (rL2 (rI (fun _ j => 0 < j) fun i j => .int (i % j))) .md := okx_int2 rfl fun a b d h => by
  unfold semMod at h
  split at h
  · split at h
    · rename_i hl
      cases h
      exact ⟨_, _, rfl, rfl, hl, fun _ _ _ => .int _⟩
    · cases h
  · cases h
theorem okx_pow : OpOk K (rL2 (rI CPow fun i j => .int (i ^ j.toNat))) .pow := okx_int2 rfl fun a b d h => by
  unfold semPow at h
  split at h
  · split at h
    · rename_i hl
      cases h
      simp only [Bool.and_eq_true, decide_eq_true_eq] at hl
      exact ⟨_, _, rfl, rfl, ⟨hl.1.1, hl.1.2, hl.2⟩, fun _ _ _ => .int _⟩
    · cases h
  · cases h
end
end Mp
/-! Dicts whose keys are nested tuples of whole numbers: the rules. -/
namespace Mp
open PySem L2 PyProof.Rows
section
variable {K : KW} {G H : Hp}
mutual
theorem NK.of_rv : ∀ {v : V} {d : D} {ws : List Addr}, RV K G H v d ws → keyD d = true → NK K.K G (nkOf d) v
  | _, _, _, .hole v, c => by simp [keyD] at c
  | _, _, _, .non, c => by simp [keyD] at c
  | _, _, _, .bl b, c => by simp [keyD] at c
  | _, _, _, .int i, _ => by rw [nkOf]; exact .num i
  | _, _, _, .str s, _ => by rw [nkOf]; exact .text s
  | _, _, _, .tup h r, c => by rw [nkOf]; exact .tup h (NKs.of_rvs r (by simpa [keyD] using c))
  | _, _, _, .own h r, c => by simp [keyD] at c
  | _, _, _, .frz h r e, c => by simp [keyD] at c
  | _, _, _, .dic h r, c => by simp [keyD] at c
  | _, _, _, .dicF h r e, c => by simp [keyD] at c
  | _, _, _, .dicN h n e q z r, c => by simp [keyD] at c
  | _, _, _, .dicNF h n e q z r y, c => by simp [keyD] at c
theorem NKs.of_rvs : ∀ {vs : List V} {ds : List D} {ws : List Addr}, RVs K G H vs ds ws → keyDs ds = true → NKs K.K G (nksOf ds) vs
  | _, _, _, .nil, _ => by rw [nksOf]; exact .nil
  | _, _, _, .cons h r, c => by
    rw [keyDs, Bool.and_eq_true] at c
    rw [nksOf]
    exact .cons (NK.of_rv h c.1) (NKs.of_rvs r c.2)
end
mutual
theorem NK.to_rv : ∀ {d : D} {v : V}, keyD d = true → NK K.K G (nkOf d) v → RV K G H v d []
  | .int i, v, _, h => by
    rw [nkOf] at h
    cases h
    exact .int i
  | .str s, v, _, h => by
    rw [nkOf] at h
    generalize e : (⟨s.toArray⟩ : Str) = x at h
    cases h with
    | text t =>
      injection e with e
      have e2 : s = t := by simpa using congrArg Array.toList e
      rw [e2]
      exact .str t
  | .tup xs, v, c, h => by
    rw [nkOf] at h
    cases h with
    | tup s r => exact .tup s (NKs.to_rvs (by simpa [keyD] using c) r)
  | .hole, _, c, _ => by simp [keyD] at c
  | .non, _, c, _ => by simp [keyD] at c
  | .bl _, _, c, _ => by simp [keyD] at c
  | .lst _ _, _, c, _ => by simp [keyD] at c
  | .dic _ _ _, _, c, _ => by simp [keyD] at c
theorem NKs.to_rvs : ∀ {ds : List D} {vs : List V}, keyDs ds = true → NKs K.K G (nksOf ds) vs → RVs K G H vs ds []
  | [], vs, _, h => by
    rw [nksOf] at h
    cases h
    exact .nil
  | d :: ds, vs, c, h => by
    rw [keyDs, Bool.and_eq_true] at c
    rw [nksOf] at h
    cases h with
    | cons h1 h2 => exact RVs.cons (o1 := []) (o2 := []) (NK.to_rv c.1 h1) (NKs.to_rvs c.2 h2)
end
end
section
variable {X : Cx} {pins : List (Addr × Obj)} {σ : L2.St} {H : Hp} {s : Shared}
mutual
/-- in the real heap -/
theorem NK.real (I : Inv X pins σ H s) : ∀ {k : NestedKey} {v : V} {u : Value}, NK X.K H k v → RelV v u → NestedIs s.heap k u
  | _, _, _, .num i, r => by
    obtain ⟨t, rfl⟩ := r
    exact .int i t
  | _, _, _, .text s, r => by
    obtain ⟨t, rfl⟩ := r
    exact .text _ t
  | _, _, _, .tup h r, q => by
    cases q
    obtain ⟨its, rv, ⟨o, e, c, n, dt⟩, _⟩ := I.tuple h
    exact .tup e c dt (by simpa using NKs.real I r rv)
theorem NKs.real (I : Inv X pins σ H s) : ∀ {k : List NestedKey} {v : List V} {u : List Value}, NKs X.K H k v → Vals v u → NestedAll s.heap k u
  | _, _, _, .nil, r => by cases r; exact .nil
  | _, _, _, .cons h t, r => by
    cases r with
    | cons r1 r2 => exact .cons (NK.real I h r1) (NKs.real I t r2)
end
def valN (xs : List (NestedKey × Addr × V)) (k : NestedKey) : Option V := (xs.find? fun x => decide (x.1 = k)).map (·.2.2)
def putX : List (NestedKey × Addr × V) → NestedKey → Addr → V → List (NestedKey × Addr × V)
  | [], k, b, v => [(k, b, v)]
  | p :: r, k, b, v => if p.1 = k then (p.1, p.2.1, v) :: r else p :: putX r k b v
theorem PU.val {xs : List (NestedKey × Addr × V)} {us : List (NestedKey × Addr × Value)} (r : PU xs us) (k : NestedKey) : RelO (valN xs k) ((atKey us k).map (·.2)) := by
  induction r with
  | nil => exact True.intro
  | @cons p q ps qs h t ih =>
    obtain ⟨h1, _, h2⟩ := h
    by_cases e : p.1 = k
    · have e' : q.1 = k := h1.symm.trans e
      have b : atKey (q :: qs) k = some q.2 := by simp [atKey, List.find?_cons, e']
      have c : valN (p :: ps) k = some p.2.2 := by simp [valN, List.find?_cons, e]
      rw [c, b]; exact h2
    · have e' : ¬ q.1 = k := fun z => e (h1.trans z)
      have b : atKey (q :: qs) k = atKey qs k := by simp [atKey, List.find?_cons, e']
      have c : valN (p :: ps) k = valN ps k := by simp [valN, List.find?_cons, e]
      rw [c, b]; exact ih
theorem PU.keys {xs : List (NestedKey × Addr × V)} {us : List (NestedKey × Addr × Value)} (r : PU xs us) : xs.map (·.1) = us.map (·.1) := by
  induction r with
  | nil => rfl
  | cons h t ih => rw [List.map_cons, List.map_cons, h.1, ih]
theorem PU.length {xs : List (NestedKey × Addr × V)} {us : List (NestedKey × Addr × Value)} (r : PU xs us) : xs.length = us.length := Paired.length r
theorem atKey_mem {us : List (NestedKey × Addr × Value)} {k : NestedKey} : (atKey us k).isSome = true ↔ k ∈ us.map (·.1) := by
  unfold atKey
  rw [Option.isSome_map, List.find?_isSome, List.mem_map]
  constructor
  · rintro ⟨x, h1, h2⟩
    exact ⟨x, h1, by simpa using h2⟩
  · rintro ⟨x, h1, h2⟩
    exact ⟨x, h1, by simpa using h2⟩
theorem putAt_none {us : List (NestedKey × Addr × Value)} {k : NestedKey} {u : Value} (h : k ∉ us.map (·.1)) : us.map (putAt k u) = us := by
  conv => rhs; rw [← List.map_id us]
  refine List.map_congr_left fun p hp => ?_
  unfold putAt
  rw [if_neg fun e => h (by rw [← e]; exact List.mem_map_of_mem hp)]
  rfl
theorem PU.put {xs : List (NestedKey × Addr × V)} {us : List (NestedKey × Addr × Value)} (r : PU xs us) (k : NestedKey) (b : Addr) {y : V} {u : Value} (nd : (us.map (·.1)).Nodup) (ry : RelV y u) : PU (putX xs k b y) (storedH us k b u) := by
  induction r with
  | nil => exact .cons ⟨rfl, rfl, ry⟩ .nil
  | @cons p q ps qs h t ih =>
    rw [List.map_cons, List.nodup_cons] at nd
    unfold putX
    by_cases e : p.1 = k
    · rw [if_pos e]
      have e' : q.1 = k := h.1.symm.trans e
      unfold storedH
      rw [if_pos (atKey_mem.mpr (by rw [List.map_cons, e']; exact List.mem_cons_self ..)), List.map_cons, putAt_none (by rw [← e']; exact nd.1)]
      unfold putAt
      rw [if_pos e']
      exact .cons ⟨h.1, h.2.1, ry⟩ t
    · rw [if_neg e]
      have e' : ¬ q.1 = k := fun z => e (h.1.trans z)
      have ih := ih nd.2
      unfold storedH at ih ⊢
      by_cases m : k ∈ qs.map (·.1)
      · rw [if_pos (atKey_mem.mpr m)] at ih
        rw [if_pos (atKey_mem.mpr (by rw [List.map_cons]; exact List.mem_cons_of_mem _ m)), List.map_cons]
        refine .cons ?_ ih
        unfold putAt
        rw [if_neg e']
        exact h
      · rw [if_neg (fun z => m (atKey_mem.mp z))] at ih
        rw [if_neg (fun z => ?_)]
        · exact .cons h ih
        · have z := atKey_mem.mp z
          rw [List.map_cons] at z
          rcases List.mem_cons.mp z with z | z
          · exact e' z.symm
          · exact m z
theorem putX_len (k : NestedKey) (b : Addr) (v : V) : ∀ xs : List (NestedKey × Addr × V), (putX xs k b v).length ≤ xs.length + 1
  | [] => by simp [putX]
  | p :: r => by
    unfold putX
    split
    · simp
    · have := putX_len k b v r
      simp only [List.length_cons]
      omega
theorem putX_mem {k : NestedKey} {b : Addr} {v : V} : ∀ {xs : List (NestedKey × Addr × V)} {x : NestedKey × Addr × V}, x ∈ putX xs k b v → (x.1 = k ∧ x.2.1 = b) ∨ ∃ y ∈ xs, y.1 = x.1 ∧ y.2.1 = x.2.1
  | [], x, h => by
    have h : x ∈ [(k, b, v)] := h
    rw [List.mem_singleton] at h
    subst h
    exact .inl ⟨rfl, rfl⟩
  | p :: r, x, h => by
    unfold putX at h
    split at h
    · rcases List.mem_cons.mp h with rfl | h
      · exact .inr ⟨p, List.mem_cons_self .., rfl, rfl⟩
      · exact .inr ⟨x, List.mem_cons_of_mem _ h, rfl, rfl⟩
    · rcases List.mem_cons.mp h with rfl | h
      · exact .inr ⟨x, List.mem_cons_self .., rfl, rfl⟩
      · rcases putX_mem h with z | ⟨y, z1, z2⟩
        · exact .inl z
        · exact .inr ⟨y, List.mem_cons_of_mem _ z1, z2⟩
/-- at a stands a dict with the nested keys xs (the empty one told as the plain dict) -/
def IsN (w : World) (H : Hp) (a : Addr) (xs : List (NestedKey × Addr × V)) : Prop := H a = some (dN w a xs) ∨ (xs = [] ∧ H a = some (.dK []))
/-- the keys of a dict stand -/
def Stand (K : PySem.W.Frag) (H : Hp) (xs : List (NestedKey × Addr × V)) : Prop := ∀ x ∈ xs, NK K H x.1 (.ref x.2.1) ∧ x.1.depth ≤ 8
theorem n_of {a : Addr} {xs : List (NestedKey × Addr × V)} (I : Inv X pins σ H s) (e : IsN X.w H a xs) (st : Stand X.K H xs) : (a == sysModules) = false ∧ xs.length ≤ sizeLine ∧ (xs.map (·.1)).Nodup ∧
    ∃ us, PU xs us ∧ s.heap.DictOfH (nestedKind X.prog X.w) a us := by
  rcases e with e | ⟨rfl, e⟩
  · obtain ⟨⟨h1, h2, h4, us, h5, o, es, ep, q1, q2, q3, q4⟩, _⟩ := (show ObjOk X.prog X.w H s.heap a (.ext (dNφ X.w a xs)) from I.hok a _ e)
    refine ⟨h1, h2, h4, us, h5, o, es, ep, q1, q2, q3, q4, ?_, by rw [← h5.keys]; exact h4⟩
    have fr : ∀ {l : List (NestedKey × Addr × V)} {m : List (NestedKey × Addr × Value)}, PU l m → Stand X.K H l → ∀ x ∈ m, (nestedKind X.prog X.w).is s.heap x.1 x.2.1 := by
      intro l m r
      induction r with
      | nil => intro _ x hx; exact nomatch hx
      | @cons p q ps qs h t ih =>
        intro hf x hx
        rcases List.mem_cons.mp hx with rfl | hx
        · obtain ⟨z1, z2⟩ := hf p (List.mem_cons_self ..)
          rw [← h.1, ← h.2.1]
          exact ⟨z1.real I rfl, z2⟩
        · exact ih (fun y hy => hf y (List.mem_cons_of_mem _ hy)) x hx
    exact fr h5 st
  · obtain ⟨z, hd, vs, rel, o, es, ep, q1, q2, q3, q4, q5, q6⟩ := dk_of I.hok e
    cases rel
    refine ⟨hd, Nat.zero_le _, List.nodup_nil, [], .nil, o, es, ep, q1, q2, q3, ?_, fun _ h => (nomatch h), List.nodup_nil⟩
    cases hes : es.toList with
    | nil => rfl
    | cons _ _ =>
      rw [hes] at q5
      cases q5
section
variable {A : Around} {E : Value → Shared → Prop} {a b : Addr} {xs : List (NestedKey × Addr × V)} {k : NestedKey}
theorem n_in {Q : Value → Shared → Prop} (hu : A.units + 64 < cLine) (I : Inv X pins σ H s) (e : IsN X.w H a xs) (st : Stand X.K H xs) (hk : NK X.K H k (.ref b)) (hd : k.depth ≤ 8) (h : ∀ s', Inv X pins σ H s' → Q (.bool (valN xs k).isSome) s') :
    wpAny (model X.prog X.w) A (compareOp .In (.ref b) (.ref a)) Q E s := by
  obtain ⟨z1, z2, z4, us, rel, dd⟩ := n_of I e st
  refine wpAny_in_heap (knd := nestedKind X.prog X.w) (k := k) (by show A.units + 1 + 8 < cLine; omega) ⟨hk.real I rfl, hd⟩ z1 dd ?_
  have q := (rel.val k).isSome_eq
  rw [Option.isSome_map] at q
  rw [← q]
  exact h _ (I.tok _)
theorem n_notIn {Q : Value → Shared → Prop} (hu : A.units + 64 < cLine) (I : Inv X pins σ H s) (e : IsN X.w H a xs) (st : Stand X.K H xs) (hk : NK X.K H k (.ref b)) (hd : k.depth ≤ 8) (h : ∀ s', Inv X pins σ H s' → Q (.bool (!(valN xs k).isSome)) s') :
    wpAny (model X.prog X.w) A (compareOp .NotIn (.ref b) (.ref a)) Q E s := by
  obtain ⟨z1, z2, z4, us, rel, dd⟩ := n_of I e st
  refine wpAny_notIn_heap (knd := nestedKind X.prog X.w) (k := k) (by show A.units + 1 + 8 < cLine; omega) ⟨hk.real I rfl, hd⟩ z1 dd ?_
  have q := (rel.val k).isSome_eq
  rw [Option.isSome_map] at q
  rw [← q]
  exact h _ (I.tok _)
theorem n_get {Q : Value → Shared → Prop} {v : V} (hu : A.units + 64 < cLine) (I : Inv X pins σ H s) (e : IsN X.w H a xs) (st : Stand X.K H xs) (hk : NK X.K H k (.ref b)) (hd : k.depth ≤ 8) (hv : valN xs k = some v) (h : ∀ w' s', Inv X pins σ H s' → RelV v w' → Q w' s') :
    wpAny (model X.prog X.w) A (getItem (.ref a) (.ref b)) Q E s := by
  obtain ⟨z1, z2, z4, us, rel, dd⟩ := n_of I e st
  obtain ⟨w', hw, rw'⟩ := RelO.some_of (v := v) (o := (atKey us k).map (·.2)) (by rw [← hv]; exact rel.val k)
  obtain ⟨p, hp, hp2⟩ := Option.map_eq_some_iff.mp hw
  refine wpAny_getItem_heap (knd := nestedKind X.prog X.w) (k := k) (by show A.units + 1 + 8 < cLine; omega) ⟨hk.real I rfl, hd⟩ dd hp ?_
  rw [hp2]
  exact h w' _ (I.tok _) rw'
theorem n_okD {h' : Heap} {us : List (NestedKey × Addr × Value)} {H' : Hp} (z1 : (a == sysModules) = false) (z2 : xs.length ≤ sizeLine) (rel : PU xs us) (dd : h'.DictOfH (nestedKind X.prog X.w) a us) :
    ObjOk X.prog X.w H' h' a (dN X.w a xs) := by
  obtain ⟨o, es, ep, q1, q2, q3, q4, q5, q6⟩ := dd
  have hn : (xs.map (·.1)).Nodup := by rw [rel.keys]; exact q6
  refine ⟨⟨z1, z2, hn, us, rel, o, es, ep, q1, q2, q3, q4⟩, ⟨o, q1⟩, fun h1 h2 hf hk => ?_⟩
  obtain ⟨y1, y2, y4, us', y5, o', es', ep', y6, y7, y8, y9⟩ := hf
  exact ⟨y1, y2, y4, us', y5, o', es', ep', hk _ y6, y7, y8, y9⟩
theorem isN_mut (e : IsN X.w H a xs) : Mut (H a) := by
  rcases e with e | ⟨_, e⟩ <;> rw [e] <;> exact True.intro
theorem n_set {Q : Unit → Shared → Prop} {v : V} {r : Value} (hu : A.units + 64 < cLine) (I : Inv X pins σ H s) (e : IsN X.w H a xs) (st : Stand X.K H xs) (hk : NK X.K H k (.ref b)) (hd : k.depth ≤ 8) (hl : xs.length < sizeLine) (rv : RelV v r)
    (h : ∀ s', Inv X pins σ (upd H a (dN X.w a (putX xs k b v))) s' → Q () s') :
    wpAny (model X.prog X.w) A (setItem (.ref a) (.ref b) r) Q E s := by
  obtain ⟨z1, z2, z4, us, rel, dd⟩ := n_of I e st
  refine wpAny_setItem_heap (knd := nestedKind X.prog X.w) (k := k) (hsz := by rw [← rel.length]; exact z2) (by show A.units + 1 + 8 < cLine; omega) ⟨hk.real I rfl, hd⟩ dd fun h' dd' hs => h _ ?_
  have he : ∃ q, h'.get? a = some q := let ⟨q, _, _, hq, _⟩ := dd'; ⟨q, hq⟩
  have nd : (us.map (·.1)).Nodup := by rw [← rel.keys]; exact z4
  exact d_write I (isN_mut e) hs he (n_okD z1 (by have := putX_len k b v xs; omega) (rel.put k b nd rv) dd')
end
/-! ### as operators -/
def rInN (K : KW) (neg : Bool) : R2 := fun x y H Q => ∃ a b xs k, x = .ref b ∧ y = .ref a ∧ IsN K.w H a xs ∧ Stand K.K H xs ∧ NK K.K H k (.ref b) ∧ k.depth ≤ 8 ∧ Q (.bl (if neg then !(valN xs k).isSome else (valN xs k).isSome)) H
theorem op_inN (hu : X.A.units + 64 < cLine) : OpR X (compareOp .In) (rInN X.kw false) := by
  intro pins s σ H x y v u Q I rx ry h
  obtain ⟨a, b, xs, k, rfl, rfl, e, st, hk, hd, q⟩ := h
  cases rx
  cases ry
  exact n_in hu I e st hk hd fun s3 I3 => ⟨.bl _, H, I3, rfl, q⟩
theorem op_notInN (hu : X.A.units + 64 < cLine) : OpR X (compareOp .NotIn) (rInN X.kw true) := by
  intro pins s σ H x y v u Q I rx ry h
  obtain ⟨a, b, xs, k, rfl, rfl, e, st, hk, hd, q⟩ := h
  cases rx
  cases ry
  exact n_notIn hu I e st hk hd fun s3 I3 => ⟨.bl _, H, I3, rfl, q⟩
def rIxN (K : KW) : R2 := fun x y H Q => ∃ a b xs k v, x = .ref a ∧ y = .ref b ∧ IsN K.w H a xs ∧ Stand K.K H xs ∧ NK K.K H k (.ref b) ∧ k.depth ≤ 8 ∧ valN xs k = some v ∧ Q v H
theorem ix_nest (hu : X.A.units + 64 < cLine) : IxR X (rIxN X.kw) := by
  intro value slice pins s σ H x y v u Q I rx ry h hs
  obtain ⟨a, b, xs, k, z, rfl, rfl, e, st, hk, hd, hv, q⟩ := h
  cases rx
  cases ry
  obtain ⟨_, _, _, us, _, dd⟩ := n_of I e st
  exact tail_any dd.typeIs PySem.F.slot_dict_getitem.lookup (n_get hu I e st hk hd hv fun w' s' I' rw' => ⟨z, H, I', rw', q⟩) hs
def rSetN (K : KW) : TSet := fun o i v H Q => ∃ a b xs k, o = .ref a ∧ i = .ref b ∧ IsN K.w H a xs ∧ Stand K.K H xs ∧ NK K.K H k (.ref b) ∧ k.depth ≤ 8 ∧ xs.length < sizeLine ∧ Q (upd H a (dN K.w a (putX xs k b v)))
theorem set_nest (hu : X.A.units + 64 < cLine) : PSet X (rSetN X.kw) := by
  intro pins s σ H o i v ov iv u Q I ro ri rv h
  obtain ⟨a, b, xs, k, rfl, rfl, e, st, hk, hd, hl, q⟩ := h
  cases ro
  cases ri
  exact n_set hu I e st hk hd hl rv fun s' I' => ⟨_, I', q⟩
end
end Mp
namespace Mp
open PySem L2
section
variable {K : KW}
/-! ### *, == -/
def rMulA : R2 := fun x y H Q => (∃ i j, x = .int i ∧ y = .int j ∧ CMul i j ∧ Q (.int (i * j)) H) ∨ rRep x y H Q
theorem op_mulA {X : Cx} : OpR X (binaryOp .Mult) rMulA := op_mul.or op_rep
theorem RVs.rep {G H : Hp} {vs : List V} {ds : List D} (h : RVs K G H vs ds []) : ∀ k : Nat, RVs K G H (List.replicate k vs).flatten (List.replicate k ds).flatten []
  | 0 => .nil
  | k + 1 => by
    rw [List.replicate_succ, List.replicate_succ, List.flatten_cons, List.flatten_cons]
    exact h.app (RVs.rep h k)
/-- a text over and over -/
def rMulS : R2 := fun x y H Q => ∃ (s : List Nat) (k : Int), x = .str ⟨s.toArray⟩ ∧ y = .int k ∧ 2 ≤ k ∧ 1 ≤ s.length ∧ s.length * k.toNat ≤ sizeLine ∧ Q (.str ⟨(List.replicate k.toNat s).flatten.toArray⟩) H
theorem fold_rep (s : List Nat) : ∀ (n : Nat) (a : List Nat), (List.replicate n s.toArray).foldl (· ++ ·) a.toArray = (a ++ (List.replicate n s).flatten).toArray
  | 0, a => by simp
  | n + 1, a => by
    rw [List.replicate_succ, List.foldl_cons, show a.toArray ++ s.toArray = (a ++ s).toArray by simp, fold_rep s n (a ++ s), List.replicate_succ, List.flatten_cons, List.append_assoc]
theorem op_mulS {X : Cx} : OpR X (binaryOp .Mult) rMulS := by
  intro pins s σ H x y v u Q I rx ry h
  obtain ⟨z, k, rfl, rfl, h2, h1, hz, q⟩ := h
  obtain ⟨t, rfl⟩ := rx
  obtain ⟨t', rfl⟩ := ry
  have hsz : sizeLine = 16777216 := rfl
  have hlen : (⟨z.toArray⟩ : Str).length = z.length := size_str z
  have hk : k ≤ 16777216 := by
    have : 1 * k.toNat ≤ z.length * k.toNat := Nat.mul_le_mul_right _ h1
    omega
  have b1 : (k == 1 || (⟨z.toArray⟩ : Str).length == 0) = false := by
    rw [hlen]
    have e1 : (k == 1) = false := beq_eq_false_iff_ne.mpr (by omega)
    have e2 : (z.length == 0) = false := beq_eq_false_iff_ne.mpr (by omega)
    rw [e1, e2]; rfl
  have r1 : (decide (k < -(2 ^ 63 : Int)) || decide (k ≥ 2 ^ 63)) = false := by
    rw [decide_eq_false (by omega), decide_eq_false (by omega)]; rfl
  have r2 : ¬ (((⟨z.toArray⟩ : Str).length : Int) > (2 ^ 63 - 1) / k) := by
    rw [hlen]
    have : ((z.length : Int)) ≤ (2 ^ 63 - 1) / k := by
      rw [Int.le_ediv_iff_mul_le (by omega)]
      have : (z.length : Int) * k = ((z.length * k.toNat : Nat) : Int) := by rw [Int.natCast_mul, Int.toNat_of_nonneg (by omega)]
      omega
    omega
  have r3 : Builtin.Str.tooLong ((⟨z.toArray⟩ : Str).length * k.toNat) = false := by
    rw [hlen]
    unfold Builtin.Str.tooLong
    exact decide_eq_false (by omega)
  refine PySem.P.mul_str r1 (fun _ _ => r2) (fun _ _ => r3) ?_
  rw [if_neg (by omega), if_neg (by rw [b1]; decide)]
  have e : (List.replicate k.toNat z.toArray).foldl (· ++ ·) #[] = (List.replicate k.toNat z).flatten.toArray := by
    have := fold_rep z k.toNat []
    simpa using this
  rw [show (⟨z.toArray⟩ : Str).cps = z.toArray from rfl, e]
  refine ⟨?_, .str _, H, I.tok _, ⟨_, rfl⟩, q⟩
  show (List.replicate k.toNat z).flatten.toArray.size ≤ sizeLine
  rw [List.size_toArray, List.length_flatten, List.map_replicate, List.sum_replicate_nat, Nat.mul_comm]
  exact hz
theorem okx_mul : OpOk K (rL2 fun x y H Q => rMulA x y H Q ∨ rMulS x y H Q) .mul := by
  intro vs ds d H G Q hr sg ho k
  obtain ⟨a, b, rfl, hf⟩ := sem2_some ho
  obtain ⟨v1, v2, w1, w2, rfl, h1, h2⟩ := hr.two
  unfold semMul at hf
  split at hf
  · split at hf
    · rename_i hl
      cases hf
      unfold mulOk at hl
      simp only [Bool.or_eq_true, Bool.and_eq_true, decide_eq_true_eq] at hl
      exact .inl (.inl ⟨_, _, h1.int_inv, h2.int_inv, hl, k.pure sg (.int _)⟩)
    · cases hf
  · split at hf
    · rename_i hl
      cases hf
      simp only [Bool.and_eq_true, decide_eq_true_eq] at hl
      cases h1 with
      | own e r =>
        have n1 := r.clean_nil hl.1.1.1
        subst n1
        exact .inl (.inr ⟨_, _, _, rfl, h2.int_inv, e, hl.1.1.2, hl.1.2, by rw [r.length, ← big_eq]; exact hl.2, k.list sg (r.rep _)⟩)
    · cases hf
  · split at hf
    · rename_i hl
      cases hf
      simp only [Bool.and_eq_true, decide_eq_true_eq] at hl
      exact .inr ⟨_, _, h1.str_inv, h2.int_inv, hl.1.1, hl.1.2, by rw [← big_eq]; exact hl.2, k.pure sg (.str _)⟩
    · cases hf
  · cases hf
mutual
theorem RV.dp {G H : Hp} (sg : Same G H) : ∀ {v : V} {d : D} {ws : List Addr}, RV K G H v d ws → plain d = true → Dp K.K H v (pd d)
  | _, _, _, .hole v, c => by simp [plain] at c
  | _, _, _, .non, _ => by rw [pd]; exact .non
  | _, _, _, .bl b, _ => by rw [pd]; exact .bl b
  | _, _, _, .int i, _ => by rw [pd]; exact .int i
  | _, _, _, .str s, _ => by rw [pd]; exact .str _
  | _, _, _, .tup h r, c => by rw [pd]; exact .tup (SqT.keep sg h) (RVs.dp sg r (by simpa [plain] using c))
  | _, _, _, .own h r, c => by rw [pd]; exact .lst (.of h) (RVs.dp sg r (by simpa [plain] using c))
  | _, _, _, .frz h r e, c => by rw [pd]; exact .lst (sg.seq h) (RVs.dp sg r (by simpa [plain] using c))
  | _, _, _, .dic h r, c => by simp [plain] at c
  | _, _, _, .dicF h r e, c => by simp [plain] at c
theorem RVs.dp {G H : Hp} (sg : Same G H) : ∀ {vs : List V} {ds : List D} {ws : List Addr}, RVs K G H vs ds ws → plains ds = true → DpAll K.K H vs (pds ds)
  | _, _, _, .nil, _ => by rw [pds]; exact .nil
  | _, _, _, .cons h r, c => by
    rw [plains, Bool.and_eq_true] at c
    rw [pds]
    exact .cons (RV.dp sg h c.1) (RVs.dp sg r c.2)
end
def rEqA (K : PySem.W.Frag) : R2 := fun x y H Q => rEq x y H Q ∨ rEqD K x y H Q
def rNeA (K : PySem.W.Frag) : R2 := fun x y H Q => rNe x y H Q ∨ rNeD K x y H Q
theorem op_eqA {X : Cx} (hu : X.A.units + 64 < cLine) : OpR X (compareOp .Eq) (rEqA X.K) := op_eq.or (op_eqD hu)
theorem op_neA {X : Cx} (hu : X.A.units + 64 < cLine) : OpR X (compareOp .NotEq) (rNeA X.K) := op_ne.or (op_neD hu)
theorem str_inj {x y : List Nat} : (V.str ⟨x.toArray⟩ = V.str ⟨y.toArray⟩) ↔ x = y := by
  constructor
  · intro h
    injection h with h
    injection h with h
    simpa using congrArg Array.toList h
  · rintro rfl
    rfl
theorem eqS_ok {G H : Hp} {a b : D} {r : Bool} {v u : V} {w1 w2 : List Addr} (h : eqS a b = some r) (h1 : RV K G H v a w1) (h2 : RV K G H u b w2) : scal v u = true ∧ decide (v = u) = r := by
  unfold eqS at h
  split at h
  case h_4 =>
    cases h
    rw [h1.str_inv, h2.str_inv]
    exact ⟨rfl, by simp only [str_inj]⟩
  case h_2 => cases h; rw [h1.int_inv, h2.int_inv]; exact ⟨rfl, by simp⟩
  case h_3 => cases h; rw [h1.bl_inv, h2.bl_inv]; exact ⟨rfl, by simp⟩
  all_goals first
    | (cases h; cases h1; cases h2; exact ⟨rfl, by simp⟩)
    | cases h
theorem eqD_ok {G H : Hp} {a b : D} {r : Bool} {v u : V} {w1 w2 : List Addr} (sg : Same G H) (h : eqD a b = some r) (h1 : RV K G H v a w1) (h2 : RV K G H u b w2) :
    (scal v u = true ∧ decide (v = u) = r) ∨ ∃ d e, Dp K.K H v d ∧ Dp K.K H u e ∧ SeqAt.shaped d = true ∧ SeqAt.shaped e = true ∧ PyData.eqv d e = r := by
  unfold eqD at h
  split at h
  · exact .inl (eqS_ok h h1 h2)
  · split at h
    · rename_i hc
      cases h
      simp only [Bool.and_eq_true] at hc
      exact .inr ⟨_, _, h1.dp sg hc.1.1.1, h2.dp sg hc.1.1.2, hc.1.2, hc.2, rfl⟩
    · cases h
theorem okx_eq : OpOk K (rL2 (rEqA K.K)) .eq := by
  intro vs ds d H G Q hr sg ho k
  obtain ⟨a, b, rfl, hf⟩ := sem2_some ho
  obtain ⟨v1, v2, w1, w2, rfl, h1, h2⟩ := hr.two
  obtain ⟨r, e, rfl⟩ := Option.map_eq_some_iff.mp hf
  rcases eqD_ok sg e h1 h2 with ⟨p, q⟩ | ⟨x, y, p1, p2, p3, p4, q⟩
  · exact .inl ⟨p, by rw [q]; exact k.pure sg (.bl _)⟩
  · exact .inr ⟨x, y, p1, p2, p3, p4, by rw [q]; exact k.pure sg (.bl _)⟩
theorem okx_ne : OpOk K (rL2 (rNeA K.K)) .ne := by
  intro vs ds d H G Q hr sg ho k
  obtain ⟨a, b, rfl, hf⟩ := sem2_some ho
  obtain ⟨v1, v2, w1, w2, rfl, h1, h2⟩ := hr.two
  obtain ⟨r, e, rfl⟩ := Option.map_eq_some_iff.mp hf
  rcases eqD_ok sg e h1 h2 with ⟨p, q⟩ | ⟨x, y, p1, p2, p3, p4, q⟩
  · exact .inl ⟨p, by rw [q]; exact k.pure sg (.bl _)⟩
  · exact .inr ⟨x, y, p1, p2, p3, p4, by rw [q]; exact k.pure sg (.bl _)⟩
/-! ### in -/
theorem flat_V {G H : Hp} {v : V} {d : D} {w : List Addr} (h : RV K G H v d w) (f : flat d = true) : flatV v = true := by
  cases h <;> first | rfl | simp [flat] at f
theorem flats_V {G H : Hp} : ∀ {vs : List V} {ds : List D} {w : List Addr}, RVs K G H vs ds w → ds.all flat = true → vs.all flatV = true
  | _, _, _, .nil, _ => rfl
  | _, _, _, .cons h r, f => by
    rw [List.all_cons, Bool.and_eq_true] at f
    rw [List.all_cons, flat_V h f.1, flats_V r f.2]
    rfl
theorem eqF_V {G H : Hp} {v u : V} {a b : D} {w1 w2 : List Addr} (h1 : RV K G H v a w1) (h2 : RV K G H u b w2) (f1 : flat a = true) (f2 : flat b = true) : eqV v u = eqF a b := by
  cases h1 <;> cases h2 <;> first
    | simp [flat] at f1; done
    | simp [flat] at f2; done
    | rfl
    | skip
  rename_i s t
  show ((⟨s.toArray⟩ : Str) == ⟨t.toArray⟩) = (s == t)
  rw [Bool.eq_iff_iff, beq_iff_eq, beq_iff_eq]
  constructor
  · intro h
    injection h with h
    simpa using congrArg Array.toList h
  · rintro rfl
    rfl
theorem inV_D {G H : Hp} {v : V} {a : D} {w : List Addr} (h : RV K G H v a w) (f : flat a = true) : ∀ {vs : List V} {ds : List D} {w : List Addr}, RVs K G H vs ds w → ds.all flat = true → inV v vs = ds.any fun y => eqF y a
  | _, _, _, .nil, _ => rfl
  | _, _, _, .cons h1 r, f1 => by
    rw [List.all_cons, Bool.and_eq_true] at f1
    unfold inV
    rw [List.any_cons, List.any_cons, eqF_V h1 h f1.1 f]
    have q := inV_D h f r f1.2
    unfold inV at q
    rw [q]
def rInB (K : PySem.W.Frag) (neg : Bool) : R2 := fun x y H Q => ∃ a o, y = .ref a ∧ DGet H a x o ∧ Q (.bl (if neg then !o.isSome else o.isSome)) H
def rInC (neg : Bool) : R2 := fun x y H Q => ∃ (c : Nat) (z : Str), x = .str ⟨#[c]⟩ ∧ y = .str z ∧ Q (.bl (if neg then !decide (c ∈ z.cps.toList) else decide (c ∈ z.cps.toList))) H
def rInA (K : KW) (neg : Bool) : R2 := fun x y H Q => rInC neg x y H Q ∨ rIn K.K neg x y H Q ∨ rInB K.K neg x y H Q ∨ rInN K neg x y H Q
theorem op_inA {X : Cx} (hu : X.A.units + 64 < cLine) : OpR X (compareOp .In) (rInA X.kw false) := by
  have h1 : OpR X (compareOp .In) (rInC false) := op_in_sign
  have h3 : OpR X (compareOp .In) (rInB X.K false) := by
    intro pins s σ H x y v u Q I rx ry h
    obtain ⟨a, ov, rfl, g, q⟩ := h
    obtain rfl : u = Value.ref a := ry
    exact d_in (by omega) I g rx fun s3 I3 => ⟨.bl ov.isSome, H, I3, rfl, q⟩
  exact h1.or (op_in_seq.or (h3.or (op_inN hu)))
theorem op_notInA {X : Cx} (hu : X.A.units + 64 < cLine) : OpR X (compareOp .NotIn) (rInA X.kw true) := by
  have h1 : OpR X (compareOp .NotIn) (rInC true) := op_notIn_sign
  have h3 : OpR X (compareOp .NotIn) (rInB X.K true) := by
    intro pins s σ H x y v u Q I rx ry h
    obtain ⟨a, ov, rfl, g, q⟩ := h
    obtain rfl : u = Value.ref a := ry
    exact d_notIn (by omega) I g rx fun s3 I3 => ⟨.bl (!ov.isSome), H, I3, rfl, q⟩
  exact h1.or (op_notIn_seq.or (h3.or (op_notInN hu)))
theorem allInt_eq : ∀ {xs : List D} {ns : List Int}, allInt xs = some ns → xs = ns.map D.int
  | [], ns, h => by cases h; rfl
  | x :: xs, ns, h => by
    cases x with
    | int i =>
      obtain ⟨r, e, rfl⟩ := Option.map_eq_some_iff.mp (show (allInt xs).map (i :: ·) = some ns from h)
      rw [allInt_eq e]
      rfl
    | _ => cases h
theorem allBl_eq : ∀ {xs : List D} {ns : List Bool}, allBl xs = some ns → xs = ns.map D.bl
  | [], ns, h => by cases h; rfl
  | x :: xs, ns, h => by
    cases x with
    | bl i =>
      obtain ⟨r, e, rfl⟩ := Option.map_eq_some_iff.mp (show (allBl xs).map (i :: ·) = some ns from h)
      rw [allBl_eq e]
      rfl
    | _ => cases h
theorem allStr_eq : ∀ {xs : List D} {ns : List (List Nat)}, allStr xs = some ns → xs = ns.map D.str
  | [], ns, h => by cases h; rfl
  | x :: xs, ns, h => by
    cases x with
    | str i =>
      obtain ⟨r, e, rfl⟩ := Option.map_eq_some_iff.mp (show (allStr xs).map (i :: ·) = some ns from h)
      rw [allStr_eq e]
      rfl
    | _ => cases h
theorem RVs.ints {G H : Hp} : ∀ {vs : List V} {ns : List Int} {w : List Addr}, RVs K G H vs (ns.map D.int) w → vs = ns.map V.int
  | vs, [], w, h => by cases h; rfl
  | vs, n :: ns, w, h => by
    cases h with
    | cons a r => rw [a.int_inv, RVs.ints r]; rfl
theorem RVs.bls {G H : Hp} : ∀ {vs : List V} {ns : List Bool} {w : List Addr}, RVs K G H vs (ns.map D.bl) w → vs = ns.map V.bl
  | vs, [], w, h => by cases h; rfl
  | vs, n :: ns, w, h => by
    cases h with
    | cons a r => rw [a.bl_inv, RVs.bls r]; rfl
theorem RVs.strs {G H : Hp} : ∀ {vs : List V} {ns : List (List Nat)} {w : List Addr}, RVs K G H vs (ns.map D.str) w → vs = (ns.map fun s => (⟨s.toArray⟩ : Str)).map V.str
  | vs, [], w, h => by cases h; rfl
  | vs, n :: ns, w, h => by
    cases h with
    | cons a r => rw [a.str_inv, RVs.strs r]; rfl
theorem RVs.of_ints {G H : Hp} : ∀ ns : List Int, RVs K G H (ns.map V.int) (ns.map D.int) []
  | [] => .nil
  | n :: ns => .cons (o1 := []) (o2 := []) (.int n) (RVs.of_ints ns)
theorem keyV_int {kvs : List (Key × V)} {ns : List Int} (h : (kvs.map fun p => keyV p.1) = ns.map D.int) : kvs.map (·.1) = ns.map Sum.inl := by
  induction kvs generalizing ns with
  | nil =>
    cases ns with
    | nil => rfl
    | cons n ns => cases h
  | cons p r ih =>
    cases ns with
    | nil => cases h
    | cons n ns =>
      rw [List.map_cons, List.map_cons] at h
      injection h with h1 h2
      rw [List.map_cons, List.map_cons, ih h2]
      congr 1
      obtain ⟨k, v⟩ := p
      cases k with
      | inl i =>
        have h1 : D.int i = D.int n := h1
        injection h1 with h1
        rw [h1]
      | inr s => cases h1
theorem valV_in {kvs : List (Key × V)} {ns : List Int} {i : Int} (h : kvs.map (·.1) = ns.map Sum.inl) : (valV kvs (Sum.inl i : Key)).isSome = ns.contains i := by
  induction kvs generalizing ns with
  | nil =>
    cases ns with
    | nil => rfl
    | cons n ns => cases h
  | cons p r ih =>
    cases ns with
    | nil => cases h
    | cons n ns =>
      rw [List.map_cons, List.map_cons] at h
      injection h with h1 h2
      rw [List.contains_cons]
      by_cases e : p.1 = Sum.inl i
      · rw [valV_pos e]
        have : n = i := by
          rw [h1] at e
          injection e
        subst this
        simp
      · rw [valV_neg e, ih h2]
        have : ¬ i = n := fun z => e (by rw [h1, z])
        simp [this]
theorem nest_int_no : ∀ {ys : List (NestedKey × Addr × V)} {ks : List D}, ys ≠ [] → ys.map (·.1) = nksOf ks → ks.all keyT = true → (allInt ks).isSome = true → False := fun {ys ks} n e c q => by
  cases ks with
  | nil =>
    rw [nksOf, List.map_eq_nil_iff] at e
    exact n e
  | cons k ks =>
    rw [List.all_cons, Bool.and_eq_true] at c
    cases k <;> first
      | (simp [keyT] at c; done)
      | (simp [allInt] at q; done)
/-- a dict, whoever holds it -/
theorem RV.dic_inv {G H : Hp} {v : V} {o : Bool} {ks xs : List D} {ws : List Addr} (sg : Same G H) (h : RV K G H v (.dic o ks xs) ws) (hk : (allInt ks).isSome = true) : ∃ a kvs, v = .ref a ∧ H a = some (.dK kvs) ∧ (ks = kvs.map fun p => keyV p.1) ∧ ∃ ws, RVs K G H (kvs.map (·.2)) xs ws := by
  have no : ∀ {ys : List (NestedKey × Addr × V)} {ks : List D}, ys ≠ [] → ys.map (·.1) = nksOf ks → ks.all keyT = true → (allInt ks).isSome = true → False := fun {ys ks} n e c q => by
    cases ks with
    | nil =>
      rw [nksOf, List.map_eq_nil_iff] at e
      exact n e
    | cons k ks =>
      rw [List.all_cons, Bool.and_eq_true] at c
      cases k <;> first
        | (simp [keyT] at c; done)
        | (simp [allInt] at q; done)
  cases h with
  | dic h r => exact ⟨_, _, rfl, h, rfl, _, r⟩
  | dicF h r e => exact ⟨_, _, rfl, sg _ _ h, rfl, _, r⟩
  | dicN h n e c q r => exact (no n e c hk).elim
  | dicNF h n e c q r z => exact (no n e c hk).elim
theorem keyT_tup : ∀ {d : D}, keyT d = true → ∃ xs, d = .tup xs
  | .tup xs, _ => ⟨xs, rfl⟩
theorem keyT_depth {d : D} (h : keyT d = true) : (nkOf d).depth ≤ 8 := by
  obtain ⟨xs, rfl⟩ := keyT_tup h
  rw [keyT, Bool.and_eq_true] at h
  exact of_decide_eq_true h.2
theorem nksOf_len : ∀ ks : List D, (nksOf ks).length = ks.length
  | [] => by rw [nksOf]; rfl
  | k :: ks => by rw [nksOf, List.length_cons, nksOf_len ks]; rfl
theorem nks_mem : ∀ {ks : List D} {n : NestedKey}, n ∈ nksOf ks → ∃ k ∈ ks, nkOf k = n
  | [], n, h => by rw [nksOf] at h; cases h
  | k :: ks, n, h => by
    rw [nksOf] at h
    rcases List.mem_cons.mp h with rfl | h
    · exact ⟨k, List.mem_cons_self .., rfl⟩
    · obtain ⟨j, h1, h2⟩ := nks_mem h
      exact ⟨j, List.mem_cons_of_mem _ h1, h2⟩
theorem stand_of {H : Hp} {ys : List (NestedKey × Addr × V)} {ks : List D} (e : ys.map (·.1) = nksOf ks) (c : ks.all keyT = true) (q : ∀ x ∈ ys, NK K.K H x.1 (.ref x.2.1)) : Stand K.K H ys := fun x hx => by
  refine ⟨q x hx, ?_⟩
  have hm : x.1 ∈ nksOf ks := by rw [← e]; exact List.mem_map_of_mem hx
  obtain ⟨k, h1, h2⟩ := nks_mem hm
  rw [← h2]
  exact keyT_depth (List.all_eq_true.mp c k h1)
/-- a dict with nested keys, whoever holds it -/
theorem RV.nest_inv {G H : Hp} {v : V} {o : Bool} {ks xs : List D} {ws : List Addr} (sg : Same G H) (h : RV K G H v (.dic o ks xs) ws) (hk : ks.all keyT = true) :
    ∃ a ys, v = .ref a ∧ IsN K.w H a ys ∧ Stand K.K H ys ∧ ys.map (·.1) = nksOf ks ∧ ∃ ws, RVs K G H (ys.map (·.2.2)) xs ws := by
  have no : ∀ {kvs : List (Key × V)}, (kvs.map fun p => keyV p.1).all keyT = true → kvs = [] := fun {kvs} c => by
    cases kvs with
    | nil => rfl
    | cons p r =>
      rw [List.map_cons, List.all_cons, Bool.and_eq_true] at c
      obtain ⟨k, v⟩ := p
      cases k <;> simp [keyV, keyT] at c
  cases h with
  | dic h r =>
    have e := no hk
    subst e
    exact ⟨_, [], rfl, .inr ⟨rfl, h⟩, fun _ h => (nomatch h), rfl, _, r⟩
  | dicF h r e =>
    have e := no hk
    subst e
    exact ⟨_, [], rfl, .inr ⟨rfl, sg _ _ h⟩, fun _ h => (nomatch h), rfl, _, r⟩
  | dicN h n e c q r => exact ⟨_, _, rfl, .inl h, stand_of e c fun x hx => (q x hx).keep sg, e, _, r⟩
  | dicNF h n e c q r z => exact ⟨_, _, rfl, .inl (sg _ _ h), stand_of e c fun x hx => (q x hx).keep sg, e, _, r⟩
theorem sameN_iff {a b : D} : sameN a b = true ↔ nkOf a = nkOf b := by
  unfold sameN
  rw [← NestedKey.decide_eq]
  exact decide_eq_true_iff
theorem valN_any : ∀ {ys : List (NestedKey × Addr × V)} {ks : List D} {x : D}, ys.map (·.1) = nksOf ks → (valN ys (nkOf x)).isSome = ks.any fun k => sameN k x
  | [], [], x, _ => rfl
  | [], _ :: _, x, h => by rw [nksOf] at h; cases h
  | _ :: _, [], x, h => by rw [nksOf] at h; cases h
  | y :: ys, k :: ks, x, h => by
    rw [nksOf, List.map_cons] at h
    injection h with h1 h2
    rw [List.any_cons]
    by_cases e : y.1 = nkOf x
    · have e2 : sameN k x = true := sameN_iff.mpr (by rw [← h1]; exact e)
      rw [e2]
      simp [valN, List.find?_cons, e]
    · have e2 : sameN k x = false := Bool.eq_false_iff.mpr fun z => e (by rw [h1]; exact sameN_iff.mp z)
      have c : valN (y :: ys) (nkOf x) = valN ys (nkOf x) := by simp [valN, List.find?_cons, e]
      rw [c, e2, valN_any h2, Bool.false_or]
theorem valN_at {G H : Hp} : ∀ {ys : List (NestedKey × Addr × V)} {ks vs : List D} {x d : D} {ws : List Addr}, ys.map (·.1) = nksOf ks → RVs K G H (ys.map (·.2.2)) vs ws → atN ks vs x = some d → ∃ v w, valN ys (nkOf x) = some v ∧ RV K G H v d w
  | [], [], vs, x, d, ws, _, _, h => by cases vs <;> cases h
  | [], _ :: _, vs, x, d, ws, h, _, _ => by rw [nksOf] at h; cases h
  | _ :: _, [], vs, x, d, ws, h, _, _ => by rw [nksOf] at h; cases h
  | y :: ys, k :: ks, [], x, d, ws, _, _, h => by cases h
  | y :: ys, k :: ks, v :: vs, x, d, ws, h, rv, e => by
    rw [nksOf, List.map_cons] at h
    injection h with h1 h2
    rw [List.map_cons] at rv
    cases rv with
    | cons r1 r2 =>
      have e : (if sameN k x then some v else atN ks vs x) = some d := e
      by_cases z : sameN k x = true
      · rw [if_pos z] at e
        cases e
        have e2 : y.1 = nkOf x := by rw [h1]; exact sameN_iff.mp z
        exact ⟨_, _, by simp [valN, List.find?_cons, e2], r1⟩
      · rw [if_neg z] at e
        have e2 : ¬ y.1 = nkOf x := fun q => z (sameN_iff.mpr (by rw [← h1]; exact q))
        obtain ⟨v', w', q1, q2⟩ := valN_at h2 r2 e
        exact ⟨v', w', by rw [← q1]; simp [valN, List.find?_cons, e2], q2⟩
theorem in_core {G H : Hp} {Q : VK} (neg : Bool) {v1 v2 : V} {a b : D} {w1 w2 : List Addr} {r : Bool} (h1 : RV K G H v1 a w1) (h2 : RV K G H v2 b w2) (sg : Same G H) (e : semIn a b = some r)
    (q : Q (.bl (if neg then !r else r)) H) : rInA K neg v1 v2 H Q := by
  unfold semIn at e
  split at e
  · cases e
    rename_i c y
    refine .inl ⟨c, ⟨y.toArray⟩, h1.str_inv, h2.str_inv, ?_⟩
    have z : decide (c ∈ (⟨y.toArray⟩ : Str).cps.toList) = y.contains c := by simp [List.contains_iff_mem, Bool.eq_iff_iff]
    rw [z]
    exact q
  · split at e
    · rename_i hc
      cases e
      rw [Bool.and_eq_true] at hc
      obtain ⟨p, vs, rfl, _, s, ws, rv⟩ := h2.tup_inv sg
      exact .inr (.inl ⟨p, vs, rfl, .inr s, flat_V h1 hc.1, flats_V rv hc.2, by rw [inV_D h1 hc.1 rv hc.2]; exact q⟩)
    · cases e
  · split at e
    · rename_i hc
      cases e
      rw [Bool.and_eq_true] at hc
      obtain ⟨p, vs, rfl, s, ws, rv⟩ := h2.lst_inv sg
      exact .inr (.inl ⟨p, vs, rfl, .inl s, flat_V h1 hc.1, flats_V rv hc.2, by rw [inV_D h1 hc.1 rv hc.2]; exact q⟩)
    · cases e
  · obtain ⟨ns, e1, rfl⟩ := Option.map_eq_some_iff.mp e
    obtain ⟨p, kvs, rfl, hd, rfl, ws, rv⟩ := h2.dic_inv sg (by rw [e1]; rfl)
    rw [h1.int_inv]
    refine .inr (.inr (.inl ⟨p, _, rfl, DGet.k (k := Sum.inl _) hd, ?_⟩))
    rw [valV_in (keyV_int (allInt_eq e1))]
    exact q
  · split at e
    · rename_i hc
      cases e
      rw [Bool.and_eq_true] at hc
      obtain ⟨p, ys, rfl, hd, st, e1, ws, rv⟩ := h2.nest_inv sg hc.2
      obtain ⟨b, vs, rfl, _⟩ := h1.tup_inv sg
      refine .inr (.inr (.inr ⟨p, b, ys, _, rfl, rfl, hd, st, (NK.of_rv h1 (keyT_D hc.1)).keep sg, keyT_depth hc.1, ?_⟩))
      rw [valN_any e1]
      exact q
    · cases e
  · cases e
theorem okx_in : OpOk K (rL2 (rInA K false)) .isin := by
  intro vs ds d H G Q hr sg ho k
  obtain ⟨a, b, rfl, hf⟩ := sem2_some ho
  obtain ⟨v1, v2, w1, w2, rfl, h1, h2⟩ := hr.two
  obtain ⟨r, e, rfl⟩ := Option.map_eq_some_iff.mp hf
  exact in_core false h1 h2 sg e (k.pure sg (.bl _))
theorem okx_notin : OpOk K (rL2 (rInA K true)) .notin := by
  intro vs ds d H G Q hr sg ho k
  obtain ⟨a, b, rfl, hf⟩ := sem2_some ho
  obtain ⟨v1, v2, w1, w2, rfl, h1, h2⟩ := hr.two
  obtain ⟨r, e, rfl⟩ := Option.map_eq_some_iff.mp hf
  exact in_core true h1 h2 sg e (k.pure sg (.bl _))
end
end Mp
namespace Mp
open PySem L2
section
variable {K : KW}
/-! ### is None -/
theorem non_iff {G H : Hp} {v : V} {d : D} {w : List Addr} (h : RV K G H v d w) (nh : d ≠ .hole) : decide (v = .non) = isNon d := by
  cases h <;> first
    | rfl
    | exact absurd rfl nh
    | simp [isNon]
def rIsN : RL := fun vs H Q => match vs with
  | [x] => Q (.bl (decide (x = .non))) H
  | _ => False
def rNotN : RL := fun vs H Q => match vs with
  | [x] => Q (.bl (!decide (x = .non))) H
  | _ => False
/-- with no hole among what is handed in -/
def OpOkN (K : KW) (r : RL) (o : Op) : Prop := ∀ (vs : List V) (ds : List D) (d : D) (H G : Hp) (Q : VK), RXs K G H vs ds → (∀ d ∈ ds, d ≠ .hole) → Same G H → opSem o ds = some d → Cont K H G d Q → r vs H Q
theorem okx_isN : OpOkN K rIsN .isN := by
  intro vs ds d H G Q hr nh sg ho k
  obtain ⟨a, rfl, hf⟩ := sem1_some ho
  obtain ⟨v1, w1, rfl, h1⟩ := hr.one
  cases hf
  show Q (.bl (decide (v1 = .non))) H
  rw [non_iff h1 (nh a (by simp))]
  exact k.pure sg (.bl _)
theorem okx_notN : OpOkN K rNotN .notN := by
  intro vs ds d H G Q hr nh sg ho k
  obtain ⟨a, rfl, hf⟩ := sem1_some ho
  obtain ⟨v1, w1, rfl, h1⟩ := hr.one
  cases hf
  show Q (.bl (!decide (v1 = .non))) H
  rw [non_iff h1 (nh a (by simp))]
  exact k.pure sg (.bl _)
/-! ### subscripts -/
theorem RVs.get {G H : Hp} : ∀ {vs : List V} {ds : List D} {w : List Addr} {i : Nat} {d : D}, RVs K G H vs ds w → ds[i]? = some d → ∃ v w', vs[i]? = some v ∧ RV K G H v d w'
  | _, _, _, i, d, .nil, e => by simp at e
  | _, _, _, 0, d, .cons h r, e => by
    simp at e
    subst e
    exact ⟨_, _, by simp, h⟩
  | _, _, _, i + 1, d, .cons h r, e => by
    obtain ⟨v, w', q1, q2⟩ := RVs.get (i := i) r (by simpa using e)
    exact ⟨v, w', by simpa using q1, q2⟩
theorem RVs.atI {G H : Hp} {vs : List V} {ds : List D} {w : List Addr} {i : Int} {d : D} (h : RVs K G H vs ds w) (e : atL ds i = some d) : ∃ v w', L2.atI vs i = some v ∧ RV K G H v d w' := by
  unfold atL L2.atI at e
  unfold L2.atI
  rw [h.length]
  cases q : ixN ds.length i with
  | none => rw [q] at e; cases e
  | some j =>
    rw [q] at e
    exact h.get e
def rIxA (K : KW) : R2 := fun x y H Q => rIxL K.K x y H Q ∨ rIxT K.K x y H Q ∨ rIxS x y H Q ∨ rIxN K x y H Q
theorem ix_A {X : Cx} (hu : X.A.units + 64 < cLine) : IxR X (rIxA X.kw) := ix_list.or (ix_tup.or (ix_str.or (ix_nest hu)))
theorem okx_ix : OpOk K (rL2 (rIxA K)) .ix := by
  intro vs ds d H G Q hr sg ho k
  obtain ⟨a, b, rfl, hf⟩ := sem2_some ho
  obtain ⟨v1, v2, w1, w2, rfl, h1, h2⟩ := hr.two
  unfold semIx at hf
  split at hf
  · obtain ⟨d1, e1, e2⟩ := Option.bind_eq_some_iff.mp hf
    split at e2
    · rename_i hc
      cases e2
      obtain ⟨p, vs, rfl, s, ws, rv⟩ := h1.lst_inv sg
      obtain ⟨v, w', q1, q2⟩ := rv.atI e1
      have := q2.clean_nil hc
      subst this
      exact .inl ⟨p, vs, _, v, rfl, h2.int_inv, s, q1, k.pure sg q2⟩
    · cases e2
  · obtain ⟨d1, e1, e2⟩ := Option.bind_eq_some_iff.mp hf
    split at e2
    · rename_i hc
      cases e2
      obtain ⟨p, vs, rfl, _, s, ws, rv⟩ := h1.tup_inv sg
      obtain ⟨v, w', q1, q2⟩ := rv.atI e1
      have := q2.clean_nil hc
      subst this
      exact .inr (.inl ⟨p, vs, _, v, rfl, h2.int_inv, s, q1, k.pure sg q2⟩)
    · cases e2
  · split at hf
    · rename_i hl
      obtain ⟨c, e1, rfl⟩ := Option.map_eq_some_iff.mp hf
      refine .inr (.inr (.inl ⟨_, _, c, h1.str_inv, h2.int_inv, by rw [size_str, ← big_eq]; exact hl, by simpa [atL] using e1, ?_⟩))
      exact k.pure sg (.str [c])
    · cases hf
  · split at hf
    · rename_i hc
      simp only [Bool.and_eq_true, decide_eq_true_eq] at hc
      obtain ⟨d1, e1, e2⟩ := Option.bind_eq_some_iff.mp hf
      split at e2
      · rename_i hcl
        cases e2
        obtain ⟨p, ys, rfl, hd, st, e3, ws, rv⟩ := h1.nest_inv sg hc.1.2
        obtain ⟨b, vs, rfl, _⟩ := h2.tup_inv sg
        obtain ⟨v, w', q1, q2⟩ := valN_at e3 rv e1
        have := q2.clean_nil hcl
        subst this
        exact .inr (.inr (.inr ⟨p, b, ys, _, v, rfl, rfl, hd, st, (NK.of_rv h2 (keyT_D hc.1.1)).keep sg, keyT_depth hc.1.1, q1, k.pure sg q2⟩))
      · cases e2
    · cases hf
  · cases hf
/-! ### slices -/
theorem RVs.uncons' {G H : Hp} {v : V} {vs : List V} {d : D} {ds : List D} {w : List Addr} (h : RVs K G H (v :: vs) (d :: ds) w) : w = [] → RV K G H v d [] ∧ RVs K G H vs ds [] := by
  cases h with
  | cons a r =>
    intro e
    have e2 := List.append_eq_nil_iff.mp e
    rw [e2.2] at r
    rw [e2.1] at a
    exact ⟨a, r⟩
theorem RVs.uncons {G H : Hp} {v : V} {vs : List V} {d : D} {ds : List D} (h : RVs K G H (v :: vs) (d :: ds) []) : RV K G H v d [] ∧ RVs K G H vs ds [] := h.uncons' rfl
theorem RVs.drop {G H : Hp} : ∀ {vs : List V} {ds : List D} (n : Nat), RVs K G H vs ds [] → RVs K G H (vs.drop n) (ds.drop n) []
  | _, _, 0, h => by simpa using h
  | [], [], n + 1, h => by simpa using h
  | v :: vs, d :: ds, n + 1, h => by simpa using RVs.drop n h.uncons.2
  | [], d :: ds, n + 1, h => by cases h
  | v :: vs, [], n + 1, h => by cases h
theorem RVs.take {G H : Hp} : ∀ {vs : List V} {ds : List D} (n : Nat), RVs K G H vs ds [] → RVs K G H (vs.take n) (ds.take n) []
  | _, _, 0, h => by simpa using .nil
  | [], [], n + 1, h => by simpa using h
  | v :: vs, d :: ds, n + 1, h => by simpa using RVs.cons (o1 := []) (o2 := []) h.uncons.1 (RVs.take n h.uncons.2)
  | [], d :: ds, n + 1, h => by cases h
  | v :: vs, [], n + 1, h => by cases h
theorem RVs.cut {G H : Hp} {vs : List V} {ds : List D} (h : RVs K G H vs ds []) (lo hi : Option Int) : RVs K G H (cutV vs lo hi) (Mp.cut ds lo hi) [] := by
  unfold cutV Mp.cut Mp.cutP
  rw [h.length]
  exact (h.drop _).take _
def rSlA (K : PySem.W.Frag) : V → Option Int → Option Int → Hp → VK → Prop := fun x lo hi H Q => rSlL K x lo hi H Q ∨ rSlS x lo hi H Q
theorem sl_A {X : Cx} : SlR X (rSlA X.K) := sl_list.or sl_str
theorem cut_core {G H : Hp} {Q : VK} {v : V} {a d : D} {w : List Addr} {lo hi : Option Int} (h1 : RV K G H v a w) (sg : Same G H) (e : cutD a lo hi = some d) (k : Cont K H G d Q) : rSlA K.K v lo hi H Q := by
  unfold cutD at e
  split at e
  · split at e
    · rename_i hl
      cases e
      refine .inr ⟨_, h1.str_inv, by rw [size_str, ← big_eq]; exact hl, ?_⟩
      have z : ∀ xs : List Nat, cutS ⟨xs.toArray⟩ lo hi = ⟨(cut xs lo hi).toArray⟩ := fun xs => by
        unfold cutS Mp.cut Mp.cutP
        rw [size_str]
      rw [z]
      exact k.pure sg (.str _)
    · cases e
  · split at e
    · rename_i hc
      cases e
      obtain ⟨p, vs, rfl, s, ws, rv⟩ := h1.lst_inv sg
      have := rv.clean_nil hc
      subst this
      exact .inl ⟨p, vs, rfl, s, k.list sg (rv.cut lo hi)⟩
    · cases e
  · cases e
/-- a slice by the values of what is written -/
def rSlV (K : PySem.W.Frag) (l h : Bool) : RL := fun vs H Q => match vs with
  | [x] => l = false ∧ h = false ∧ rSlA K x none none H Q
  | [x, y] => (l = true ∧ h = false ∧ ∃ i, y = .int i ∧ rSlA K x (some i) none H Q) ∨ (l = false ∧ h = true ∧ ∃ i, y = .int i ∧ rSlA K x none (some i) H Q)
  | [x, y, z] => l = true ∧ h = true ∧ ∃ i j, y = .int i ∧ z = .int j ∧ rSlA K x (some i) (some j) H Q
  | _ => False
theorem partD_some {d : D} {o : Option Int} (h : partD d = some o) : ∃ i, d = .int i ∧ o = some i := by
  cases d <;> first
    | (cases h; exact ⟨_, rfl, rfl⟩)
    | cases h
theorem okx_sl (l h : Bool) : OpOk K (rSlV K.K l h) (.sl l h) := by
  intro vs ds d H G Q hr sg ho k
  have ho : semSl l h ds = some d := ho
  match ds, ho with
  | [x], ho =>
    obtain ⟨v1, w1, rfl, h1⟩ := hr.one
    obtain ⟨p, e1, e2⟩ := Option.bind_eq_some_iff.mp (show (partsD l h []).bind (fun p => cutD x p.1 p.2) = some d from ho)
    have e1 : (if l || h then none else some (none, none)) = some p := e1
    cases l <;> cases h <;> simp at e1
    subst e1
    exact ⟨rfl, rfl, cut_core h1 sg e2 k⟩
  | [x, y], ho =>
    obtain ⟨v1, v2, w1, w2, rfl, h1, h2⟩ := hr.two
    obtain ⟨p, e1, e2⟩ := Option.bind_eq_some_iff.mp (show (partsD l h [y]).bind (fun p => cutD x p.1 p.2) = some d from ho)
    obtain ⟨o, e3, e4⟩ := Option.bind_eq_some_iff.mp (show (partD y).bind (fun i => if l && !h then some (i, none) else if h && !l then some (none, i) else none) = some p from e1)
    obtain ⟨i, rfl, rfl⟩ := partD_some e3
    cases l <;> cases h <;> simp at e4
    · subst e4
      exact .inr ⟨rfl, rfl, i, h2.int_inv, cut_core h1 sg e2 k⟩
    · subst e4
      exact .inl ⟨rfl, rfl, i, h2.int_inv, cut_core h1 sg e2 k⟩
  | [x, y, z], ho =>
    obtain ⟨v1, v2, v3, w1, w2, w3, rfl, h1, h2, h3⟩ := hr.three
    obtain ⟨p, e1, e2⟩ := Option.bind_eq_some_iff.mp (show (partsD l h [y, z]).bind (fun p => cutD x p.1 p.2) = some d from ho)
    obtain ⟨o, e3, e4⟩ := Option.bind_eq_some_iff.mp (show (partD y).bind (fun i => (partD z).bind fun j => if l && h then some (i, j) else none) = some p from e1)
    obtain ⟨o2, e5, e6⟩ := Option.bind_eq_some_iff.mp e4
    obtain ⟨i, rfl, rfl⟩ := partD_some e3
    obtain ⟨j, rfl, rfl⟩ := partD_some e5
    cases l <;> cases h <;> simp at e6
    subst e6
    exact ⟨rfl, rfl, i, j, h2.int_inv, h3.int_inv, cut_core h1 sg e2 k⟩
  | _ :: _ :: _ :: _ :: _, ho => simp [semSl, partsD] at ho
/-! ### built-in functions of one -/
theorem okx_len : OpOk K (fun vs H Q => (∃ z, vs = [.str z] ∧ z.length ≤ sizeLine ∧ Q (.int z.length) H) ∨ ∃ p ys, vs = [.ref p] ∧ (SqL K.K H p ys ∨ SqT K.K H p ys) ∧ Q (.int ys.length) H) .len := by
  intro vs ds d H G Q hr sg ho k
  obtain ⟨a, rfl, hf⟩ := sem1_some ho
  obtain ⟨v1, w1, rfl, h1⟩ := hr.one
  unfold semLen at hf
  split at hf
  · split at hf
    · rename_i hl
      cases hf
      rw [h1.str_inv]
      refine .inl ⟨_, rfl, by rw [size_str, ← big_eq]; exact hl, ?_⟩
      rw [size_str]
      exact k.pure sg (.int _)
    · cases hf
  · cases hf
    obtain ⟨p, vs, rfl, s, ws, rv⟩ := h1.lst_inv sg
    exact .inr ⟨p, vs, rfl, .inl s, by rw [rv.length]; exact k.pure sg (.int _)⟩
  · cases hf
    obtain ⟨p, vs, rfl, _, s, ws, rv⟩ := h1.tup_inv sg
    exact .inr ⟨p, vs, rfl, .inr s, by rw [rv.length]; exact k.pure sg (.int _)⟩
  · cases hf
theorem okx_list : OpOk K (fun vs H Q => ∃ p ys, vs = [.ref p] ∧ (SqL K.K H p ys ∨ SqT K.K H p ys) ∧ ∀ l, H l = none → Q (.ref l) (upd H l (.lst ys))) .list := by
  intro vs ds d H G Q hr sg ho k
  obtain ⟨a, rfl, hf⟩ := sem1_some ho
  obtain ⟨v1, w1, rfl, h1⟩ := hr.one
  unfold semList at hf
  split at hf
  · split at hf
    · rename_i hc
      cases hf
      obtain ⟨p, vs, rfl, s, ws, rv⟩ := h1.lst_inv sg
      have := rv.clean_nil hc
      subst this
      exact ⟨p, vs, rfl, .inl s, k.list sg rv⟩
    · cases hf
  · split at hf
    · rename_i hc
      cases hf
      obtain ⟨p, vs, rfl, _, s, ws, rv⟩ := h1.tup_inv sg
      have := rv.clean_nil hc
      subst this
      exact ⟨p, vs, rfl, .inr s, k.list sg rv⟩
    · cases hf
  · cases hf
theorem okx_tuple : OpOk K (fun vs H Q => ∃ p ys, vs = [.ref p] ∧ ((SqL K.K H p ys ∧ ∀ l, H l = none → Q (.ref l) (upd H l (.tup ys))) ∨ (SqT K.K H p ys ∧ Q (.ref p) H))) .tuple := by
  intro vs ds d H G Q hr sg ho k
  obtain ⟨a, rfl, hf⟩ := sem1_some ho
  obtain ⟨v1, w1, rfl, h1⟩ := hr.one
  unfold semTuple at hf
  split at hf
  · split at hf
    · rename_i hc
      cases hf
      obtain ⟨p, vs, rfl, s, ws, rv⟩ := h1.lst_inv sg
      have := rv.clean_nil hc
      subst this
      exact ⟨p, vs, rfl, .inl ⟨s, k.tuple sg rv⟩⟩
    · cases hf
  · split at hf
    · rename_i hc
      cases hf
      obtain ⟨p, vs, rfl, s0, s, ws, rv⟩ := h1.tup_inv sg
      have := rv.clean_nil hc
      subst this
      exact ⟨p, vs, rfl, .inr ⟨s, k.pure sg (.tup s0 rv)⟩⟩
    · cases hf
  · cases hf
theorem okx_all : OpOk K (rAll K.K) .all := by
  intro vs ds d H G Q hr sg ho k
  obtain ⟨a, rfl, hf⟩ := sem1_some ho
  obtain ⟨v1, w1, rfl, h1⟩ := hr.one
  unfold semAll at hf
  split at hf
  · obtain ⟨bs, e, rfl⟩ := Option.map_eq_some_iff.mp hf
    obtain ⟨p, vs, rfl, s, ws, rv⟩ := h1.lst_inv sg
    rw [allBl_eq e] at rv
    rw [rv.bls] at s
    exact ⟨p, bs, rfl, s, k.pure sg (.bl _)⟩
  · cases hf
theorem okx_any : OpOk K (rAny K.K) .any := by
  intro vs ds d H G Q hr sg ho k
  obtain ⟨a, rfl, hf⟩ := sem1_some ho
  obtain ⟨v1, w1, rfl, h1⟩ := hr.one
  unfold semAny at hf
  split at hf
  · obtain ⟨bs, e, rfl⟩ := Option.map_eq_some_iff.mp hf
    obtain ⟨p, vs, rfl, s, ws, rv⟩ := h1.lst_inv sg
    rw [allBl_eq e] at rv
    rw [rv.bls] at s
    exact ⟨p, bs, rfl, s, k.pure sg (.bl _)⟩
  · cases hf
end
end Mp
namespace Mp
open PySem L2 PyProof.Rows
/-! ### text[::-1] -/
theorem rev_picked (z : Str) : ((Builtin.Str.strSliceIndices none none (-1) z.length).filterMap (z.cps[·]?)).toArray = z.cps.toList.reverse.toArray := by
  rw [picked_rev, filterMap_get]
  · congr 1
    rw [List.map_map]
    apply List.ext_getElem
    · simp [Str.length]
    · intro i h1 h2
      have h1 : i < z.cps.size := by simpa [Str.length] using h1
      have h3 : z.cps.size - 1 - i < z.cps.size := by omega
      simp [Array.getD, Str.length, h3]
  · intro i hi
    obtain ⟨k, hk, rfl⟩ := List.mem_map.mp hi
    have hk' : k < z.length := List.mem_range.mp hk
    show z.length - 1 - k < z.length
    omega
def tRevS (te : TE) : TE := fun σ H Q => te σ H fun x H1 => ∃ z, x = .str z ∧ z.length ≤ sizeLine ∧ Q (.str ⟨z.cps.toList.reverse.toArray⟩) H1
theorem pe_revS {X : Cx} {e : Expr} {te : TE} {k : Nat} {p1 p2 p3 pos : Pos} (he : PE X e te) : PE X (.Subscript e (.Slice none none (some (.UnaryOp .USub (.Constant (.int 1) k p1) p2)) p3) pos) (tRevS te) := by
  refine ⟨fun pins s σ H Q I h => ?_⟩
  refine Subscript_ (thn (he.run pins s σ H _ I h) fun v s1 ⟨x, H1, I1, r1, q1⟩ => ?_)
  obtain ⟨z, ex, hz, q⟩ := q1
  subst ex
  obtain ⟨t, rfl⟩ := r1
  have hst : PO X (some (.UnaryOp .USub (.Constant (.int 1) k p1) p2)) (tPart (tUn (rU fun i => .int (-i)) (tC (.int 1)))) := po_some (pe_un un_neg pe_int)
  refine wpAny_Slice (thn (po_none.run pins s1 σ H1 (fun o H2 => o = none ∧ H2 = H1) I1 ⟨rfl, rfl⟩) fun vl s2 ⟨l, H2, I2, pl, el, e2⟩ => ?_)
  subst el e2
  refine thn (po_none.run pins s2 σ H2 (fun o H3 => o = none ∧ H3 = H2) I2 ⟨rfl, rfl⟩) fun vu s3 ⟨u, H3, I3, pu, eu, e3⟩ => ?_
  subst eu e3
  refine thn (hst.run pins s3 σ H3 (fun o H4 => o = some (-1) ∧ H4 = H3) I3 ⟨1, rfl, -1, rfl, rfl, rfl⟩) fun vs s4 ⟨o, H4, I4, ps, eo, e4⟩ => ?_
  subst eo e4
  have I5 : Inv X pins σ H4 { s4 with heap := s4.heap.push { cls := .type "slice", data := .fields #[vl, vu, vs] } } := I4.kept (t' := s4.toks) fun b ob q => Heap.get?_push_of_some _ q
  show wpAny (model X.prog X.w) X.A (subscriptTail e (.Slice none none (some (.UnaryOp .USub (.Constant (.int 1) k p1) p2)) p3) (.str z t) (.ref s4.heap.objs.size)) (EP X pins σ Q) X.xe { s4 with heap := s4.heap.push { cls := .type "slice", data := .fields #[vl, vu, vs] } }
  refine tail_any (ops := [.ref s4.heap.objs.size, .str z t]) (typeIs_str _ _ _) (PySem.F.slot_str_getitem.lookup) ?_ (by with_unfolding_all rfl)
  obtain ⟨l, rfl, el⟩ := IsPart.raw pl
  obtain ⟨u, rfl, eu⟩ := IsPart.raw pu
  obtain ⟨st, rfl, es⟩ := IsPart.raw ps
  refine wpAny_getItem_str_slice (l := l) (u := u) (st := st) ⟨_, Heap.get?_push_size _ rfl, rfl, rfl⟩ (by rw [es]; rfl) ?_
  show Made.post (if (((st.map (·.1)).getD 1 == 1) && (Builtin.Str.strSliceIndices (l.map (·.1)) (u.map (·.1)) ((st.map (·.1)).getD 1) z.length).length == z.length) = true then Made.val (.str z t)
    else Made.str ⟨((Builtin.Str.strSliceIndices (l.map (·.1)) (u.map (·.1)) ((st.map (·.1)).getD 1) z.length).filterMap (z.cps[·]?)).toArray⟩) (EP X pins σ Q) _
  rw [el, eu, es]
  rw [if_neg (by simp)]
  show Made.post (Made.str ⟨((Builtin.Str.strSliceIndices none none (-1) z.length).filterMap (z.cps[·]?)).toArray⟩) (EP X pins σ Q) _
  rw [rev_picked]
  refine ⟨?_, .str _, H4, I5.tok _, ⟨_, rfl⟩, q⟩
  show z.cps.toList.reverse.toArray.size ≤ sizeLine
  have hz' : z.cps.size ≤ sizeLine := hz
  simpa using hz'
def rRevS : RL := fun vs H Q => match vs with
  | [x] => ∃ z, x = .str z ∧ z.length ≤ sizeLine ∧ Q (.str ⟨z.cps.toList.reverse.toArray⟩) H
  | _ => False
theorem okx_rev {K : KW} : OpOk K rRevS .rev := by
  intro vs ds d H G Q hr sg ho k
  obtain ⟨a, rfl, hf⟩ := sem1_some ho
  obtain ⟨v1, w1, rfl, h1⟩ := hr.one
  unfold semRev at hf
  split at hf
  · split at hf
    · rename_i hl
      cases hf
      refine ⟨_, h1.str_inv, by rw [size_str, ← big_eq]; exact hl, ?_⟩
      simpa using k.pure sg (.str _)
    · cases hf
  · cases hf
/-! ### sorted -/
theorem perm_sorted_eq : ∀ {xs ys : List Int}, xs.Perm ys → xs.Pairwise (· ≤ ·) → ys.Pairwise (· ≤ ·) → xs = ys
  | [], ys, p, _, _ => by rw [List.nil_perm.mp p]
  | x :: xs, ys, p, h1, h2 => by
    match ys, p, h2 with
    | [], p, _ => exact absurd p.length_eq (by simp)
    | y :: ys, p, h2 =>
      rw [List.pairwise_cons] at h1 h2
      have e : x = y := by
        have m1 : x ∈ y :: ys := p.mem_iff.mp (List.mem_cons_self ..)
        have m2 : y ∈ x :: xs := p.mem_iff.mpr (List.mem_cons_self ..)
        rcases List.mem_cons.mp m1 with z | z
        · exact z
        · rcases List.mem_cons.mp m2 with z' | z'
          · exact z'.symm
          · have a := h1.1 _ z'
            have b := h2.1 _ z
            omega
      subst e
      rw [perm_sorted_eq (List.perm_cons _ |>.mp p) h1.2 h2.2]
theorem insI_perm (x : Int) : ∀ xs : List Int, (insI x xs).Perm (x :: xs)
  | [] => .refl _
  | y :: ys => by
    unfold insI
    split
    · exact .refl _
    · exact ((insI_perm x ys).cons y).trans (.swap x y ys)
theorem sortI_perm : ∀ xs : List Int, (sortI xs).Perm xs
  | [] => .refl _
  | x :: xs => (insI_perm x (sortI xs)).trans ((sortI_perm xs).cons x)
theorem insI_sorted (x : Int) : ∀ {xs : List Int}, xs.Pairwise (· ≤ ·) → (insI x xs).Pairwise (· ≤ ·)
  | [], _ => by simp [insI]
  | y :: ys, h => by
    unfold insI
    rw [List.pairwise_cons] at h
    split
    · rename_i c
      rw [List.pairwise_cons]
      refine ⟨fun z hz => ?_, List.pairwise_cons.mpr h⟩
      rcases List.mem_cons.mp hz with rfl | hz
      · exact c
      · exact Int.le_trans c (h.1 z hz)
    · rename_i c
      rw [List.pairwise_cons]
      refine ⟨fun z hz => ?_, insI_sorted x h.2⟩
      rcases List.mem_cons.mp ((insI_perm x ys).mem_iff.mp hz) with rfl | hz
      · omega
      · exact h.1 z hz
theorem sortI_sorted : ∀ xs : List Int, (sortI xs).Pairwise (· ≤ ·)
  | [] => List.Pairwise.nil
  | x :: xs => insI_sorted x (sortI_sorted xs)
theorem paired_get {α β : Type} {F : α → β → Prop} : ∀ {l₁ : List α} {l₂ : List β} {i : Nat} {a : α}, Paired F l₁ l₂ → l₁[i]? = some a → ∃ b, l₂[i]? = some b ∧ F a b
  | _, _, i, a, .nil, e => by simp at e
  | _, _, 0, a, .cons r _, e => by
    simp at e
    subst e
    exact ⟨_, by simp, r⟩
  | _, _, i + 1, a, .cons _ t, e => by
    obtain ⟨b, h1, h2⟩ := paired_get (i := i) t (by simpa using e)
    exact ⟨b, by simpa using h1, h2⟩
theorem objOk_there {P : Program} {w : World} {H : Hp} {h : Heap} {a : Addr} {o : HO} (x : ObjOk P w H h a o) : ∃ ob, h.get? a = some ob := by
  cases o with
  | lst xs => obtain ⟨_, _, _, _, e⟩ := x; exact ⟨_, e⟩
  | tup xs => obtain ⟨_, _, _, ob, e, _⟩ := x; exact ⟨_, e⟩
  | dK kvs => obtain ⟨_, _, _, _, o, _, _, e, _⟩ := x; exact ⟨_, e⟩
  | dT kvs => obtain ⟨_, _, _, _, o, _, _, e, _⟩ := x; exact ⟨_, e⟩
  | set S n => obtain ⟨o, _, _, _, e, _⟩ := x; exact ⟨_, e⟩
  | ins C dx fs => obtain ⟨_, _, _, e, _⟩ := x; exact ⟨_, e⟩
  | own y => obtain ⟨_, e⟩ := x; exact ⟨_, e⟩
  | xd fs => obtain ⟨_, ⟨_, _, _, e, _⟩, _⟩ := x; exact ⟨_, e⟩
  | rng lo hi => obtain ⟨_, _, _, e⟩ := x; exact ⟨_, e⟩
  | frz ob u => obtain ⟨e, _⟩ := x; exact ⟨_, e⟩
  | tbl ps => exact ⟨_, show h.get? a = some _ from x⟩
  | met f y => exact ⟨_, show h.get? a = some _ from x⟩
  | ext φ => obtain ⟨_, ⟨_, e⟩, _⟩ := x; exact ⟨_, e⟩
/-- a new object is laid where nothing stood -/
theorem inv_laid {X : Cx} {pins : List (Addr × Obj)} {σ : L2.St} {H : Hp} {s : Shared} {h' : Heap} {a : Addr} {o : HO} {t' : Nat} (I : Inv X pins σ H s) (k : ∀ b u, s.heap.get? b = some u → h'.get? b = some u) (hp : s.heap.get? a = none)
    (new : ObjOk X.prog X.w (upd H a o) h' a o) : H a = none ∧ Inv X pins σ (upd H a o) { s with heap := h', toks := t' } := by
  have ne : ∀ b u, s.heap.get? b = some u → b ≠ a := fun b u e z => by rw [z, hp] at e; cases e
  have hn : H a = none := by
    cases q : H a with
    | none => rfl
    | some u =>
      obtain ⟨ob, e⟩ := objOk_there (I.hok a u q)
      rw [hp] at e
      cases e
  refine ⟨hn, I.un ⟨fun b u q _ _ _ => k b u q, fun b u q _ _ _ => ⟨u.slots, k b u q⟩, fun b u q n _ => ?_, fun b u q _ => ⟨u, k b u q⟩, fun b xs q => ?_, fun b u xs q => ?_, fun b ps q => ⟨#[], ?_⟩⟩ fun b u q => ?_⟩
  · rw [upd_ne (ne b u q)]; exact n
  · rw [upd_ne (ne_of_none q hn)]; exact q
  · rw [upd_ne (ne_of_none q hn)]; exact q
  · rw [upd_ne (ne_of_none q hn), q]; simp
  · by_cases hb : b = a
    · subst hb; rw [upd_same] at q; cases q; exact new
    · rw [upd_ne hb] at q
      exact (I.hok b u q).stay (fun c v _ r => k c v r) (fun c r => by rw [upd_ne (ne_of_none r hn)]; exact r) fun c xs r => by rw [upd_ne (ne_of_none r hn)]; exact r
/-- sorted of a dict's keys -/
def rSortedD : List V → Hp → VK → Prop := fun vs H Q => ∃ (a : Addr) (kvs : List (Key × V)) (ns : List Int), vs = [V.ref a] ∧ H a = some (.dK kvs) ∧ kvs.map (·.1) = ns.map Sum.inl ∧
  ∀ (ns' : List Int) (p : Addr), ns'.Perm ns → ns'.Pairwise (· ≤ ·) → H p = none → Q (.ref p) (upd H p (.lst (ns'.map V.int)))
theorem ints_at : ∀ {vs : List Value} {ns : List Int}, vs.length = ns.length → (∀ (j : Nat) (v : Value) (n : Int), vs[j]? = some v → ns[j]? = some n → ∃ t, v = .int n t) → IntsAre vs ns
  | [], [], _, _ => .nil
  | [], _ :: _, h, _ => by simp at h
  | _ :: _, [], h, _ => by simp at h
  | v :: vs, n :: ns, h, k => by
    obtain ⟨t, rfl⟩ := k 0 v n (by simp) (by simp)
    exact .cons n t (ints_at (by simpa using h) fun j u m h1 h2 => k (j + 1) u m (by simpa using h1) (by simpa using h2))
theorem cr_sortedD {X : Cx} (hc : X.calm = true) : CallR X (.builtin "sorted") rSortedD := by
  intro pins s σ H vs us Q I r h
  obtain ⟨a, kvs, ns, rfl, hH, hk, q⟩ := h
  rw [Vals.ref1 r]
  obtain ⟨hz, lo, xs, rv, hd⟩ := I.hok a _ hH
  obtain ⟨es, ep, hraw, hs, he⟩ := Heap.DictOf.raw hd
  have hlen : es.size = ns.length := by
    rw [hs, ← Paired.length rv]
    have := congrArg List.length hk
    simpa using this
  have hn : es.size ≤ sizeLine := by
    rw [hs, ← Paired.length rv]
    exact hz
  refine PySem.Calls.call_function_entry kind_sorted plain_sorted entry_sorted (args_sorted1 _) ?_
  unfold Builtin.«sorted»
  refine wpAny_bind (m := checkCount "sorted" 1 1 _) (wpAny_pure ?_)
  refine wpAny_bind (PySem.W.kdu_collect (A := X.A.in1) (PySem.KdlSrc.rawDict lo) (I.ok.hd hc) hraw hn fun h' tk acc hk' hacc => ?_)
  have hl : acc.toList.length = ns.length := by rw [Array.length_toList, hacc.1, hlen]
  have hI : IntsAre acc.toList ns := ints_at hl fun j v n h1 h2 => by
    obtain ⟨hi, e⟩ := hacc.2 j v (by rw [← Array.getElem?_toList]; exact h1)
    have hj : j < kvs.length := by rw [Paired.length rv, ← hs]; exact hi
    have k1 : (kvs.map (·.1))[j]? = some (Sum.inl n) := by rw [hk, List.getElem?_map, h2]; rfl
    rw [List.getElem?_map] at k1
    obtain ⟨p, p1, p2⟩ := Option.map_eq_some_iff.mp k1
    obtain ⟨x, x1, x2⟩ := paired_get rv p1
    obtain ⟨k0, v0⟩ := x
    have y := (he j hi k0 v0 x1).1
    have z : k0 = Sum.inl n := x2.1.symm.trans p2
    rw [z] at y
    obtain ⟨t, e2⟩ := Value.isInt_shape (k := n) (v := es[j].key) y
    exact ⟨t, e.trans e2⟩
  have hz2 : acc.toList.length ≤ sizeLine := by rw [hl, ← hlen]; exact hn
  refine wpAny_bind (wpAny_newList ?_ hz2)
  have hoL : (h'.push (seqObj "list" acc.toList.toArray 0)).get? h'.objs.size = some (seqObj "list" acc.toList.toArray 0) := Heap.get?_push_size _ rfl
  have keep : ∀ b o, s.heap.get? b = some o → b ≠ h'.objs.size ∧ (h'.push (seqObj "list" acc.toList.toArray 0)).get? b = some o := fun b o e => ⟨Nat.ne_of_lt (Heap.lt_size (hk' b o e)), Heap.get?_push_of_some _ (hk' b o e)⟩
  show wpAny _ _ _ _ _ { s with heap := h'.push (seqObj "list" acc.toList.toArray 0), toks := tk }
  refine wpAny_bind (wpAny_holding (wpAny_call_entry slot_list_sort ⟨_, hoL, rfl⟩ entry_list_sort (SrtO.list_sort_ord SrtO.swo_int hoL hz2 (fun h2 => SrtO.ints_sortable hI h2) fun out h1 h2 => ⟨_, rfl, ?_⟩) (args_list_sort _)))
  refine wpAny_pure ⟨_, rfl, ?_⟩
  obtain ⟨k1, k2, k3⟩ := SrtO.ints_out hI h1 h2
  obtain ⟨ep2, he'⟩ := sortedHeap_at (out := out.toArray) hoL
  have hno : s.heap.get? h'.objs.size = none := by
    cases e : s.heap.get? h'.objs.size with
    | none => rfl
    | some o => exact absurd (Heap.lt_size (hk' _ _ e)) (Nat.lt_irrefl _)
  have hlen2 : ((out.map SrtO.iv).map V.int).length ≤ sizeLine := by
    rw [List.length_map, k2.length_eq, ← hlen]
    exact hn
  have kp : ∀ b o, s.heap.get? b = some o → (sortedHeap (h'.push (seqObj "list" acc.toList.toArray 0)) h'.objs.size acc.toList out.toArray).get? b = some o := fun b o e => by
    obtain ⟨g1, g2⟩ := keep b o e
    rw [sortedHeap_old g1 (Nat.lt_trans (Heap.lt_size (hk' b o e)) (by rw [size_push']; exact Nat.lt_succ_self _))]
    exact g2
  obtain ⟨n1, I2⟩ := inv_laid (t' := tk) (o := .lst ((out.map SrtO.iv).map V.int)) I kp hno ⟨hlen2, out, ep2, vals_of_ints k1, he'⟩
  exact ⟨.ref _, _, I2, rfl, q _ _ k2 k3 n1⟩
def rSortedA (K : PySem.W.Frag) : RL := fun vs H Q => rSortedI K vs H Q ∨ rSortedD vs H Q
theorem cr_sortedA {X : Cx} (hc : X.calm = true) : CallR X (.builtin "sorted") (rSortedA X.K) := cr_sortedI.or (cr_sortedD hc)
theorem okx_sorted {K : KW} : OpOk K (rSortedA K.K) .sorted := by
  intro vs ds d H G Q hr sg ho k
  obtain ⟨a, rfl, hf⟩ := sem1_some ho
  obtain ⟨v1, w1, rfl, h1⟩ := hr.one
  have fin : ∀ (ns : List Int), d = .lst true ((sortI ns).map .int) → ∀ (ns' : List Int) (p : Addr), ns'.Perm ns → ns'.Pairwise (· ≤ ·) → H p = none → Q (.ref p) (upd H p (.lst (ns'.map V.int))) := fun ns e ns' p p1 p2 hp => by
    subst e
    have z : ns' = sortI ns := perm_sorted_eq (p1.trans (sortI_perm ns).symm) p2 (sortI_sorted ns)
    rw [z]
    exact k.list sg (RVs.of_ints _) p hp
  unfold semSorted at hf
  split at hf
  · obtain ⟨ns, e, e2⟩ := Option.map_eq_some_iff.mp hf
    obtain ⟨p, vs, rfl, s, ws, rv⟩ := h1.lst_inv sg
    rw [allInt_eq e] at rv
    rw [rv.ints] at s
    exact .inl ⟨p, ns, rfl, s, fin ns e2.symm⟩
  · obtain ⟨ns, e, e2⟩ := Option.map_eq_some_iff.mp hf
    obtain ⟨p, kvs, rfl, hd, rfl, ws, rv⟩ := h1.dic_inv sg (by rw [e]; rfl)
    exact .inr ⟨p, kvs, ns, rfl, hd, keyV_int (allInt_eq e), fin ns e2.symm⟩
  · cases hf
/-! ### join -/
theorem glued_eq (s : List Nat) : ∀ (ys : List (List Nat)) (acc : Array Nat), ((ys.map fun y => (⟨y.toArray⟩ : Str)).foldl (fun a p => a ++ (⟨s.toArray⟩ : Str).cps ++ p.cps) acc) = acc ++ (ys.flatMap fun y => s ++ y).toArray
  | [], acc => by simp
  | y :: ys, acc => by
    rw [List.map_cons, List.foldl_cons, glued_eq s ys]
    simp
theorem join_eq (s : List Nat) (ys : List (List Nat)) : Txt.join ⟨s.toArray⟩ (ys.map fun y => (⟨y.toArray⟩ : Str)) = ⟨(joinL s ys).toArray⟩ := by
  unfold Txt.join Builtin.Str.glued
  cases ys with
  | nil => rfl
  | cons y ys =>
    rw [List.map_cons, List.drop_one, List.tail_cons, glued_eq]
    simp [joinL]
def rJoinA (K : PySem.W.Frag) : RL := fun vs H Q => match vs with
  | [x, y] => (∃ a, x = .str a) ∧ ∃ a p, ∃ ys : List Str, x = .str a ∧ y = .ref p ∧ (SqL K H p (ys.map V.str) ∨ SqT K H p (ys.map V.str)) ∧ (ys.map (·.length)).sum + ys.length * a.length ≤ 16777216 ∧ Q (.str (Txt.join a ys)) H
  | _ => False
theorem okx_join {K : KW} : OpOk K (rJoinA K.K) .join := by
  intro vs ds d H G Q hr sg ho k
  obtain ⟨a, b, rfl, hf⟩ := sem2_some ho
  obtain ⟨v1, v2, w1, w2, rfl, h1, h2⟩ := hr.two
  unfold semJoin at hf
  split at hf
  · obtain ⟨ys, e, e2⟩ := Option.bind_eq_some_iff.mp hf
    split at e2
    · rename_i hl
      cases e2
      obtain ⟨p, vs, rfl, s, ws, rv⟩ := h2.lst_inv sg
      rw [allStr_eq e] at rv
      rw [rv.strs] at s
      refine ⟨⟨_, h1.str_inv⟩, _, p, _, h1.str_inv, rfl, .inl s, ?_, ?_⟩
      · rw [List.map_map, List.length_map, size_str]
        have z : ((fun x : Str => x.length) ∘ fun s : List Nat => (⟨s.toArray⟩ : Str)) = List.length := by
          funext s
          exact size_str s
        rw [z]
        exact hl
      · rw [join_eq]
        exact k.pure sg (.str _)
    · cases e2
  · cases hf
/-! ### isinstance, int -/
def tyS : Nat → String
  | 0 => "str" | 1 => "bool" | 2 => "int" | 3 => "list" | 4 => "tuple" | 5 => "dict" | _ => "NoneType"
theorem no_tup (kvs : List (Key × V)) : ¬ ((kvs.map fun p => keyV p.1).any isTupD) = true := by
  rw [List.any_map, List.any_eq_true]
  rintro ⟨⟨k, v⟩, _, h⟩
  cases k <;> cases h
theorem tup_7 {ys : List (NestedKey × Addr × V)} {ks vs : List D} {o : Bool} (n : ys ≠ []) (e : ys.map (·.1) = nksOf ks) (c : ks.all keyT = true) : ¬ tyN (.dic o ks vs) < 7 := by
  cases ks with
  | nil =>
    rw [nksOf, List.map_eq_nil_iff] at e
    exact (n e).elim
  | cons k ks =>
    rw [List.all_cons, Bool.and_eq_true] at c
    obtain ⟨xs, rfl⟩ := keyT_tup c.1
    show ¬ (if (Mp.D.tup xs :: ks).any isTupD = true then 7 else 5) < 7
    rw [if_pos (by simp [isTupD])]
    omega
theorem tyx_of {K : KW} {G H : Hp} (sg : Same G H) {v : V} {d : D} {ws : List Addr} (r : RV K G H v d ws) (h : tyN d < 7) : TyX K.K H v (.type (tyS (tyN d))) := by
  cases r with
  | hole v => exact absurd h (show ¬ 7 < 7 by omega)
  | non => exact .base .non
  | bl b => exact .base (.bl b)
  | int i => exact .base (.int i)
  | str s => exact .base (.str _)
  | tup s r =>
    rcases SqT.keep sg s with (s | ⟨o, s⟩) | ⟨o, its, n, e, c, _⟩
    · exact .base (.tup s)
    · exact .fTuple s
    · exact .kTuple e c
  | own e r => exact .base (.lst e)
  | frz s r _ =>
    rcases SqL.keep sg s with (s | ⟨o, s⟩) | ⟨o, its, n, e, c, _⟩
    · exact .base (.lst s)
    · exact .base (.frz s)
    · exact .kList e c
  | @dic _ kvs _ _ e r =>
    rw [show tyN (.dic true (kvs.map fun p => keyV p.1) _) = 5 from if_neg (no_tup kvs)]
    exact .base (.dK e)
  | @dicF _ kvs _ _ e r _ =>
    rw [show tyN (.dic false (kvs.map fun p => keyV p.1) _) = 5 from if_neg (no_tup kvs)]
    exact .base (.dK (sg _ _ e))
  | dicN e n q c _ _ => exact absurd h (tup_7 n q c)
  | dicNF e n q c _ _ _ => exact absurd h (tup_7 n q c)
theorem kit_tab {K : KW} : ∀ t k : Nat, t < 7 → k < 6 → PySem.W.kitOne K.K (.type (tyS t)) (.type (tyS k)) = some (isiB t k)
  | 0, 0, _, _ => rfl | 0, 1, _, _ => rfl | 0, 2, _, _ => rfl | 0, 3, _, _ => rfl | 0, 4, _, _ => rfl | 0, 5, _, _ => rfl
  | 1, 0, _, _ => rfl | 1, 1, _, _ => rfl | 1, 2, _, _ => rfl | 1, 3, _, _ => rfl | 1, 4, _, _ => rfl | 1, 5, _, _ => rfl
  | 2, 0, _, _ => rfl | 2, 1, _, _ => rfl | 2, 2, _, _ => rfl | 2, 3, _, _ => rfl | 2, 4, _, _ => rfl | 2, 5, _, _ => rfl
  | 3, 0, _, _ => rfl | 3, 1, _, _ => rfl | 3, 2, _, _ => rfl | 3, 3, _, _ => rfl | 3, 4, _, _ => rfl | 3, 5, _, _ => rfl
  | 4, 0, _, _ => rfl | 4, 1, _, _ => rfl | 4, 2, _, _ => rfl | 4, 3, _, _ => rfl | 4, 4, _, _ => rfl | 4, 5, _, _ => rfl
  | 5, 0, _, _ => rfl | 5, 1, _, _ => rfl | 5, 2, _, _ => rfl | 5, 3, _, _ => rfl | 5, 4, _, _ => rfl | 5, 5, _, _ => rfl
  | 6, 0, _, _ => rfl | 6, 1, _, _ => rfl | 6, 2, _, _ => rfl | 6, 3, _, _ => rfl | 6, 4, _, _ => rfl | 6, 5, _, _ => rfl
  | t + 7, _, h, _ => absurd h (by omega)
  | _, k + 6, _, h => absurd h (by omega)
def rIsiO (K : PySem.W.Frag) (k : Nat) : RL := fun vs H Q => match vs with
  | [x] => rIsi K [x, .ty (tyS k)] H Q
  | _ => False
theorem okx_isi {K : KW} {k : Nat} : OpOk K (rIsiO K.K k) (.isi k) := by
  intro vs ds d H G Q hr sg ho c
  obtain ⟨a, rfl, hf⟩ := sem1_some ho
  obtain ⟨v1, w1, rfl, h1⟩ := hr.one
  unfold semIsi at hf
  split at hf
  · rename_i hl
    simp only [Bool.and_eq_true, decide_eq_true_eq] at hl
    cases hf
    exact ⟨v1, _, _, _, _, rfl, .ty _, tyx_of sg h1 hl.2, kit_tab _ _ hl.2 hl.1, c.pure sg (.bl _)⟩
  · cases hf
def rToInt : RL := fun xs H Q => (∃ i, xs = [.int i] ∧ Q (.int i) H) ∨ ∃ k, xs = [.bl k] ∧ Q (.int (if k then 1 else 0)) H
theorem okx_toInt {K : KW} : OpOk K rToInt .toInt := by
  intro vs ds d H G Q hr sg ho c
  obtain ⟨a, rfl, hf⟩ := sem1_some ho
  obtain ⟨v1, w1, rfl, h1⟩ := hr.one
  unfold semToInt at hf
  split at hf
  · cases hf; exact .inl ⟨_, by rw [h1.int_inv], c.pure sg (.int _)⟩
  · cases hf; exact .inr ⟨_, by rw [h1.bl_inv], c.pure sg (.int _)⟩
  · cases hf
end Mp
/-! text.replace(one sign, text), of a text that an index fetched. -/
namespace Mp
open PySem L2 PyProof.Rows
def subL (c : Nat) (z : List Nat) (xs : List Nat) : List Nat := xs.flatMap fun x => if x = c then z else [x]
theorem subL_free (c : Nat) (z : List Nat) : ∀ l : List Nat, c ∉ l → subL c z l = l
  | [], _ => rfl
  | k :: r, h => by
    have h1 : ¬ k = c := fun e => h (e ▸ List.mem_cons_self ..)
    have h2 : c ∉ r := fun m => h (List.mem_cons_of_mem _ m)
    have := subL_free c z r h2
    unfold subL at this ⊢
    rw [List.flatMap_cons, if_neg h1, this]
    rfl
theorem subL_join (c : Nat) (z : List Nat) : ∀ parts : List Str, (∀ p ∈ parts, c ∉ p.cps.toList) → subL c z (Str.join ⟨#[c]⟩ parts).cps.toList = (Str.join ⟨z.toArray⟩ parts).cps.toList
  | [], _ => rfl
  | [p], h => subL_free c z _ (h p (List.mem_singleton.mpr rfl))
  | p :: q :: r, h => by
    have ih := subL_join c z (q :: r) fun a ha => h a (List.mem_cons_of_mem _ ha)
    show subL c z (p ++ ⟨#[c]⟩ ++ Str.join ⟨#[c]⟩ (q :: r)).cps.toList = (p ++ ⟨z.toArray⟩ ++ Str.join ⟨z.toArray⟩ (q :: r)).cps.toList
    simp only [Str.cps_append, Array.toList_append]
    have ap : ∀ a b : List Nat, subL c z (a ++ b) = subL c z a ++ subL c z b := fun a b => List.flatMap_append
    rw [ap, ap, ih, subL_free c z _ (h p (List.mem_cons_self ..))]
    simp [subL]
theorem replace_sub (c : Nat) (z xs : List Nat) : Txt.replace ⟨xs.toArray⟩ ⟨#[c]⟩ ⟨z.toArray⟩ = ⟨(subL c z xs).toArray⟩ := by
  have e : (Txt.replace ⟨xs.toArray⟩ ⟨#[c]⟩ ⟨z.toArray⟩).cps.toList = subL c z xs := by
    rw [StrLaws.replace_one, ← subL_join c z _ (StrLaws.split_free _ c), StrLaws.join_split]
  have e2 := congrArg List.toArray e
  simp only [Array.toArray_toList] at e2
  cases h : Txt.replace ⟨xs.toArray⟩ ⟨#[c]⟩ ⟨z.toArray⟩ with
  | mk a =>
    rw [h] at e2
    rw [← e2]
/-- t[i].replace(y, z), i written -/
def rReplIx (K : KW) (y z : Str) : R2 := fun a b H Q => rIxA K a b H fun v H1 => ∃ x, v = .str x ∧ x.length + (x.length + 1) * z.length ≤ 16777216 ∧ Q (.str (Txt.replace x y z)) H1
theorem pe_replIx {X : Cx} (hu : X.A.units + 64 < cLine) {o : Expr} {to : TE} {i : Int} {y z : Str} {k j1 j2 : Nat} {c p ap c1 c2 pos : Pos} (ho : PE X o to) (hyz : (y == z) = false) (hline : (ap.endLine == pos.line) = true) :
    PE X (.Call (.Attribute (.Subscript o (.Constant (.int i) k c) p) "replace" ap) [.Constant (.str y) j1 c1, .Constant (.str z) j2 c2] [] pos) (fun σ H Q => to σ H fun x H1 => rReplIx X.kw y z x (.int i) H1 Q) := by
  refine ⟨fun pins s σ H Q I h => ?_⟩
  refine PySem.Call_method2 (by rfl) (by rfl) hline (Q := EP X pins σ Q) ?_
  refine Subscript_ (thn (ho.run pins s σ H _ I h) fun v s1 ⟨x, H1, I1, r1, q1⟩ => ?_)
  refine wpAny_Constant_int ?_
  have I2 : Inv X pins σ H1 { s1 with toks := s1.toks + 1 } := I1.tok _
  refine wpAny_mono (PySem.wpAny_toks (ix_A hu o (.Constant (.int i) k c) pins _ σ H1 x (.int i) v _ _ I2 r1 ⟨_, rfl⟩ q1 rfl)) (fun v2 s2 q2 => ?_) fun _ _ z => z.2
  obtain ⟨hk, v', H3, I3, r3, x', e1, hb, q⟩ := q2
  subst e1
  obtain ⟨tx, e2⟩ := r3
  subst e2
  have hk : s1.toks + 1 ≤ s2.toks := hk
  refine ⟨"str", _, PySem.F.plainAttrs_str, PySem.F.slot_str_replace, PySem.F.type_str_replace, typeIs_str _ _ _, (fun _ e => nomatch e), Calls.callWith_builtin rfl (Calls.evalArgs_plain (Calls.spliced_cons ?_))⟩
  refine Calls.Constant_str (Calls.spliced_cons (Calls.Constant_str (Calls.spliced_nil ?_)))
  exact PySem.SC.replace (by show s2.toks ≠ 0; omega) (by show s2.toks + 1 ≠ 0; omega) (by show s2.toks ≠ s2.toks + 1; omega) hyz hb fun t' k => ⟨.str (Txt.replace x' y z), H3, I3.tok k, ⟨t', rfl⟩, q⟩
theorem okx_repl {K : KW} {i : Int} {y z : List Nat} : OpOk K (fun vs H Q => match vs with
    | [a] => rReplIx K ⟨y.toArray⟩ ⟨z.toArray⟩ a (.int i) H Q
    | _ => False) (.repl i y z) := by
  intro vs ds d H G Q hr sg ho k
  obtain ⟨a, rfl, hf⟩ := sem1_some ho
  obtain ⟨v1, w1, rfl, h1⟩ := hr.one
  obtain ⟨d1, e1, e2⟩ := Option.bind_eq_some_iff.mp hf
  unfold semRepl at e2
  split at e2
  · split at e2
    · split at e2
      · rename_i xs _ c hc
        cases e2
        refine okx_ix [v1, .int i] [a, .int i] (.str xs) H G _ (.cons h1 (.cons (.int i) .nil)) sg e1 ?_
        intro v H' G' ws rv f
        rw [rv.str_inv]
        refine ⟨_, rfl, ?_, ?_⟩
        · rw [size_str, size_str]
          exact of_decide_eq_true hc
        · rw [replace_sub]
          exact k (.str ⟨(subL c z xs).toArray⟩) H' G' ws (by cases rv; exact .str _) f
      · cases e2
    · cases e2
  · cases e2
end Mp
/-! Comparisons: of numbers, of texts, of (number, text). -/
namespace Mp
open PySem L2 PyProof.Rows
def rCmp (K : PySem.W.Frag) (p : Int → Int → Bool) (f : Bool → Bool → Bool) : R2 := fun x y H Q =>
  (∃ i j, x = .int i ∧ y = .int j ∧ Q (.bl (p i j)) H) ∨ (∃ i j : Str, x = .str i ∧ y = .str j ∧ Q (.bl (f (decide (i.cps.toList < j.cps.toList)) (decide (j.cps.toList < i.cps.toList)))) H) ∨
    ∃ (i j : Int) (s t : List Nat), Dp K H x (.tuple [.int i, .str ⟨s.toArray⟩]) ∧ Dp K H y (.tuple [.int j, .str ⟨t.toArray⟩]) ∧ Q (.bl (f (pairLt i s j t) (pairLt j t i s))) H
theorem toks_pair (i : Int) (s : Str) : PySem.W.keyToksAll [.int i, .str s] = [.inl 1, .inl i, .inl 1, .inr s.cps.toList, .inl 0] := by
  simp only [PySem.W.keyToksAll, PySem.W.keyToks]
  rfl
theorem pair_data (i j : Int) (s t : List Nat) : PySem.W.dataLt (.tuple [.int i, .str ⟨s.toArray⟩]) (.tuple [.int j, .str ⟨t.toArray⟩]) = pairLt i s j t := by
  rw [PySem.W.dataLt_tuple, toks_pair, toks_pair, lex_self (O := itemOrd)]
  unfold pairLt
  by_cases e : i = j
  · subst e
    rw [lex_self (O := itemOrd), lex_self (O := itemOrd)]
    have z : decide (i < i) = false := by simp
    rw [z, decide_eq_true rfl, Bool.false_or, Bool.true_and]
    by_cases e2 : s = t
    · subst e2
      rw [lex_self (O := itemOrd), lex_self (O := itemOrd)]
      rw [decide_eq_false (List.lt_irrefl s)]
      rfl
    · have ne : (Sum.inr s : Int ⊕ List Nat) ≠ Sum.inr t := fun z => e2 (by injection z)
      exact (lex_diff (O := itemOrd) (x := Sum.inr s) (y := Sum.inr t) ne).trans rfl
  · have ne : (Sum.inl i : Int ⊕ List Nat) ≠ Sum.inl j := fun z => e (by injection z)
    rw [lex_diff (O := itemOrd) ne, decide_eq_false e, Bool.false_and, Bool.or_false]
    rfl
theorem alike_pair (i j : Int) (s t : Str) : PySem.W.alike (.tuple [.int i, .str s]) (.tuple [.int j, .str t]) = true := by
  simp only [PySem.W.alike, PySem.W.alikeAll, Bool.and_self]
theorem depth_pair (i : Int) (s : Str) : (PyData.tuple [.int i, .str s]).depth ≤ 60 := by
  simp [PyData.depth, PyData.depthAll]
section
variable {X : Cx}
theorem data_le {A : Nat} (i j : Int) (s t : Str) (hu : A + 64 < cLine) : A + min (PyData.tuple [.int i, .str s]).depth (PyData.tuple [.int j, .str t]).depth < cLine := by
  have h1 := depth_pair i s
  have h2 := Nat.min_le_left (PyData.tuple [.int i, .str s]).depth (PyData.tuple [.int j, .str t]).depth
  omega
theorem op_cmpA {op : CmpOp} {p : Int → Int → Bool} {f : Bool → Bool → Bool} (h1 : OpR X (compareOp op) (rI0 fun i j => .bl (p i j)))
    (h2 : OpR X (compareOp op) fun x y H Q => ∃ i j : Str, x = .str i ∧ y = .str j ∧ Q (.bl (f (decide (i.cps.toList < j.cps.toList)) (decide (j.cps.toList < i.cps.toList)))) H)
    (h3 : ∀ {E : Value → Shared → Prop} {s : Shared} {Q : Value → Shared → Prop} {a b : Value} {da db : PyData} {as bs : List Addr}, Reads s.heap a da as → Reads s.heap b db bs → PySem.W.alike da db = true → da ≠ .none → X.A.units + min da.depth db.depth < cLine →
      Q (.bool (f (PySem.W.dataLt da db) (PySem.W.dataLt db da))) s → wpAny (model X.prog X.w) X.A (compareOp op a b) Q E s) (hu : X.A.units + 64 < cLine) : OpR X (compareOp op) (rCmp X.K p f) := by
  intro pins s σ H x y v u Q I rx ry h
  rcases h with h | h | ⟨i, j, a, b, hx, hy, q⟩
  · exact h1 pins s σ H x y v u Q I rx ry h
  · exact h2 pins s σ H x y v u Q I rx ry h
  · obtain ⟨as, r1⟩ := Dp.reads I _ x v hx rx
    obtain ⟨bs, r2⟩ := Dp.reads I _ y u hy ry
    refine h3 r1 r2 (alike_pair ..) (fun z => nomatch z) (data_le _ _ _ _ hu) ⟨.bl _, H, I, rfl, ?_⟩
    rw [pair_data, pair_data]
    exact q
theorem op_ltA (hu : X.A.units + 64 < cLine) : OpR X (compareOp .Lt) (rCmp X.K (fun i j => decide (i < j)) fun a _ => a) := op_cmpA op_lt op_lt_str (fun a b c d e q => PySem.W.lt_data a b c d e q) hu
theorem op_leA (hu : X.A.units + 64 < cLine) : OpR X (compareOp .LtE) (rCmp X.K (fun i j => decide (i ≤ j)) fun _ b => !b) := op_cmpA op_le op_le_str (fun a b c d e q => PySem.W.le_data a b c d e q) hu
theorem op_gtA (hu : X.A.units + 64 < cLine) : OpR X (compareOp .Gt) (rCmp X.K (fun i j => decide (j < i)) fun _ b => b) := op_cmpA op_gt op_gt_str (fun a b c d e q => PySem.W.gt_data a b c d e q) hu
theorem op_geA (hu : X.A.units + 64 < cLine) : OpR X (compareOp .GtE) (rCmp X.K (fun i j => decide (j ≤ i)) fun a _ => !a) := op_cmpA op_ge op_ge_str (fun a b c d e q => PySem.W.ge_data a b c d e q) hu
end
theorem okx_cmp {K : KW} {o : Op} {p : Int → Int → Bool} {f : Bool → Bool → Bool} (hs : opSem o = sem2 (semCmp p f)) : OpOk K (rL2 (rCmp K.K p f)) o := by
  intro vs ds d H G Q hr sg ho k
  rw [hs] at ho
  obtain ⟨a, b, rfl, hf⟩ := sem2_some ho
  obtain ⟨v1, v2, w1, w2, rfl, h1, h2⟩ := hr.two
  unfold semCmp at hf
  split at hf
  · cases hf
    exact .inl ⟨_, _, h1.int_inv, h2.int_inv, k.pure sg (.bl _)⟩
  · cases hf
    exact .inr (.inl ⟨_, _, h1.str_inv, h2.str_inv, k.pure sg (.bl _)⟩)
  · cases hf
    have d1 := RV.dp sg h1 (by simp [plain, plains])
    have d2 := RV.dp sg h2 (by simp [plain, plains])
    rw [pd, pds, pds, pds, pd, pd] at d1 d2
    exact .inr (.inr ⟨_, _, _, _, d1, d2, k.pure sg (.bl _)⟩)
  · cases hf
end Mp
/-! sorted(set(texts of one sign)). -/
namespace Mp
open PySem L2 PyProof.Rows PySem.Froz
/-- the set at a, its texts l -/
structure TsAt (P : Program) (w : World) (h : Heap) (a : Addr) (l : List Str) (D : SD) : Prop where
  ob : h.get? a = some (sObj "set" D)
  ok : TxOk P w D l
  ris : Ris D.2.2.place.toList
  led : w.params.followText "set-order" = true ∨ D.2.2.led = true
  nd : l.Nodup
def TsR (P : Program) (w : World) (h : Heap) (a : Addr) (l : List Str) : Prop := ∃ D, TsAt P w h a l D
section
variable {P : Program} {w : World} {A : Around} {E : Value → Shared → Prop} {s : Shared}
theorem TsR.keep {h h' : Heap} {a : Addr} {l : List Str} (R : TsR P w h a l) (k : ∀ o, h.get? a = some o → h'.get? a = some o) : TsR P w h' a l := by
  obtain ⟨D, r⟩ := R
  exact ⟨D, k _ r.ob, r.ok, r.ris, r.led, r.nd⟩
theorem tail_ris {ep : Nat} {es1 : Array (Int × Value)} {t2 : SetTable} {b : Bool} (r : Ris t2.place.toList) : Ris (tailTx ep es1 t2 b).2.2.place.toList := by
  unfold tailTx
  split
  · exact relayAll_ris _ _ _
  · exact r
theorem tail_led {ep : Nat} {es1 : Array (Int × Value)} {t2 : SetTable} {b : Bool} : (tailTx ep es1 t2 b).2.2.led = t2.led := by
  unfold tailTx
  split
  · exact relayAll_led _ _ _
  · rfl
theorem addTx_ris {h : Int} {v : Value} {D : SD} (r : Ris D.2.2.place.toList) : Ris (addTx h v D).2.2.place.toList := by
  unfold addTx
  refine tail_ris ?_
  split
  · exact layNew_ris _ _ _ _ r
  · exact layNew_ris _ _ _ _ r
theorem addTx_led {h : Int} {v : Value} {D : SD} : (addTx h v D).2.2.led = D.2.2.led := by
  unfold addTx
  refine tail_led.trans ?_
  split
  · exact layNew_led _ _ _ _
  · exact layNew_led _ _ _ _
/-- one more text, or one that is there -/
theorem ts_add {a : Addr} {l : List Str} {k : Str} {u : Tok} {Q : Bool → Shared → Prop} (R : TsR P w s.heap a l) (hb : l.length + 1 < scanBound)
    (h : ∀ (h' : Heap) (b : Bool), Heap.SameBut a s.heap h' → TsR P w h' a (if k ∈ l then l else k :: l) → Q b { s with heap := h' }) : wpAny (model P w) A (setAddHashed a (.str k u) (hashStr w k)) Q E s := by
  obtain ⟨⟨es, ep, t⟩, ob, F, ris, led, nd⟩ := R
  by_cases hk : k ∈ l
  · have hb0 : es.size < scanBound := by
      have z : es.size = l.length := F.sz
      omega
    unfold setAddHashed setAddHashedIn
    refine wpAny_holding (wpAny_bind (wpAny_setState_of ob rfl F.fit ?_)); dsimp only
    rw [byScan_of rfl hb0 F.el]; simp only [↓reduceIte]; unfold setAddByScan
    refine wpAny_bind ?_; refine wpAny_bind (wpAny_rule ?_)
    refine wpAny_bind (wpAny_setScan_of (knd := strKind P w) (k := k) (is_str k u) ob rfl F.fit F.el ?_)
    cases hfi : List.findIdx? (fun e => (strKind P w).is k e.2) es.toList with
    | some j =>
      dsimp only
      refine wpAny_pure (wpAny_pure ?_)
      have q := h s.heap false (Heap.SameBut.refl a s.heap)
      rw [if_pos hk] at q
      exact q ⟨_, ob, F, ris, led, nd⟩
    | none =>
      exfalso
      obtain ⟨e, he, q⟩ := (F.mem k).mp hk
      have c := List.findIdx?_eq_none_iff.mp hfi e he
      rw [q] at c
      cases c
  · refine add_x ob F hk hb ?_
    refine h _ true (Heap.SameBut.update s.heap a _) ?_
    rw [if_neg hk]
    refine ⟨addTx (hashStr w k) (.str k u) (es, ep, t), get_upd _ ob rfl, add_ok u F, addTx_ris ris, ?_, List.nodup_cons.mpr ⟨hk, nd⟩⟩
    rw [addTx_led]
    exact led
theorem ts_update {I : Addr} {fp wr : List Addr} {G : Array GenState → Array GenState → Prop} {n : Nat} {Pv : Nat → Value → Prop} {St : Nat → Shared → Prop} {R : Result → Shared → Prop}
    (W : WalksS P w A.in1 I fp wr G n Pv St) (S : Addr) (hSf : S ∉ fp) (ks : List Str) (hn : n = ks.length) (hb : ks.length + 1 < scanBound) (hval : ∀ i v, Pv i v → ∃ k t, ks[i]? = some k ∧ v = .str k t) :
    ∀ (k i : Nat) (s : Shared), n - i = k → i ≤ n → St i s → (∃ l, TsR P w s.heap S l ∧ l.length ≤ i ∧ ∀ x, x ∈ l ↔ x ∈ ks.take i) →
      (∀ s' l, Moved (S :: wr) G s s' → TsR P w s'.heap S l → l.length ≤ n → (∀ x, x ∈ l ↔ x ∈ ks) → R (.ok (.ret .none)) s') →
      codeAny (model P w) A (.builtin "set.update.loop" ⟨[.ref S, .ref I], []⟩) R s := by
  have out : S ∉ wr := fun h => hSf (W.sub _ h)
  have more : ∀ b ∈ wr, b ∈ S :: wr := fun b hb => List.mem_cons_of_mem S hb
  intro k
  induction k with
  | zero =>
    intro i s hk' hi hst ⟨l, hS, hl, hm⟩ hR
    have e : i = n := by omega
    subst e
    refine codeAny_builtin F.entry_set_update_loop ?_; rw [Around.under_plainId F.plain_set_update_loop _]
    show wpAny _ A.in1 (pyNext (.ref I) >>= _) _ _ s; refine wpAny_bind (W.done s _ _ hst fun s1 mv => ?_)
    show wpAny _ A.in1 (ret Value.none) _ _ s1
    have e : ks.take i = ks := List.take_of_length_le (by omega)
    rw [e] at hm
    exact wpAny_pure (hR s1 l (mv.mono more) (hS.keep fun o q => mv.heap S o out q) hl hm)
  | succ k ih =>
    intro i s hk' hi hst ⟨l, hS, hl, hm⟩ hR
    have hlt : i < n := by omega
    refine codeAny_builtin F.entry_set_update_loop ?_; rw [Around.under_plainId F.plain_set_update_loop _]
    show wpAny _ A.in1 (pyNext (.ref I) >>= _) _ _ s; refine wpAny_bind (W.item i s _ _ hlt hst fun v s1 hP hst1 mv => ?_)
    obtain ⟨z, t, hz, rfl⟩ := hval i v hP
    have hS1 : TsR P w s1.heap S l := hS.keep fun o q => mv.heap S o out q
    show wpAny _ A.in1 (holding [Value.str z t] (setAdd S (.str z t)) >>= _) _ _ s1
    refine wpAny_bind (wpAny_holding ?_); unfold setAdd; refine wpAny_holding ?_
    refine wpAny_bind ((strKind P w).pyHash (k := z) (is_str _ _) ?_)
    refine ts_add (s := { s1 with toks := s1.toks + 1 }) hS1 (by omega) fun h2 bb sb hS2 => ?_
    refine wpAny_pure ⟨plainId_quiet F.plain_set_update_loop _, ih (i + 1) _ (by omega) hlt (W.frame _ s1 _ _ hst1 (Nat.le_succ _) fun b hb o q => ?_) ⟨_, hS2, ?_, fun x => ?_⟩ fun s3 l3 mv3 hS3 hl3 hm3 => ?_⟩
    · have ne : b ≠ S := fun z => hSf (by rw [← z]; exact hb)
      rw [sb.2 b ne]; exact q
    · split
      · omega
      · rw [List.length_cons]; omega
    · rw [List.take_add_one, hz]
      have hx := hm x
      by_cases hin : z ∈ l
      · rw [if_pos hin, hx]
        have := (hm z).mp hin
        constructor
        · intro q; exact List.mem_append_left _ q
        · intro q
          rcases List.mem_append.mp q with q | q
          · exact q
          · have e : x = z := by simpa using q
            rw [e]; exact this
      · rw [if_neg hin, List.mem_cons, hx]
        constructor
        · rintro (q | q)
          · rw [q]; simp
          · exact List.mem_append_left _ q
        · intro q
          rcases List.mem_append.mp q with q | q
          · exact .inr q
          · exact .inl (by simpa using q)
    · refine hR s3 l3 (Moved.trans W.gtrans ((mv.mono more).then_heap (Nat.le_succ _) fun b o hb q => ?_) mv3) hS3 hl3 hm3
      have ne : b ≠ S := fun z => hb (by rw [z]; exact List.mem_cons_self)
      rw [sb.2 b ne]; exact q
theorem ts_empty {h : Heap} {a : Addr} (ho : h.get? a = some { cls := .type "set", dict := none, data := .set #[] 0 (.fresh 0 0 (!w.params.followText "set-order")) }) : TsR P w h a [] :=
  ⟨(#[], 0, .fresh 0 0 (!w.params.followText "set-order")), ho, TxOk.nil rfl, List.Pairwise.nil, by
    show _ ∨ (!w.params.followText "set-order") = true
    cases w.params.followText "set-order" with
    | false => exact .inr rfl
    | true => exact .inl rfl, List.nodup_nil⟩
end
end Mp
/-! set(list of texts), sorted of it. -/
namespace Mp
open PySem L2 PyProof.Rows PySem.Froz
section
variable {P : Program} {w : World} {A : Around} {E : Value → Shared → Prop} {s : Shared}
theorem strs_len : ∀ {us : List Value} {ks : List Str}, StrsAre us ks → us.length = ks.length
  | _, _, .nil => rfl
  | _, _, .cons x t r => congrArg (· + 1) (strs_len r)
theorem strs_get : ∀ {us : List Value} {ks : List Str}, StrsAre us ks → ∀ (i : Nat) (v : Value), us[i]? = some v → ∃ k t, ks[i]? = some k ∧ v = .str k t
  | _, _, .nil, i, v, h => by simp at h
  | _, _, .cons x t r, 0, v, h => ⟨x, t, rfl, by simpa using h.symm⟩
  | _, _, .cons x t r, i + 1, v, h => strs_get r i v (by simpa using h)
abbrev newSet (w : World) : Obj := { cls := .type "set", dict := none, data := .set #[] 0 (.fresh 0 0 (!w.params.followText "set-order")) }
set_option maxHeartbeats 3200000 in
theorem call_setTx {l : Addr} {items : Array Value} (ks : List Str) {Q : Value → Shared → Prop} (hh : A.handled = none) (hl : s.heap.IsList l items) (hit : StrsAre items.toList ks) (hb : ks.length + 1 < scanBound)
    (h : ∀ (h' : Heap) (tk : Nat) (L : List Str), TsR P w h' s.heap.objs.size L → L.length ≤ ks.length → (∀ x, x ∈ L ↔ x ∈ ks) → (∀ b o, s.heap.get? b = some o → h'.get? b = some o) → Q (.ref s.heap.objs.size) { s with heap := h', toks := tk }) :
    wpAny (model P w) A (call (.type "set") [.ref l]) Q E s := by
  have hsz : items.size = ks.length := by
    have q := strs_len hit
    rw [Array.length_toList] at q
    exact q
  obtain ⟨c, tl, hmro⟩ := F.called_set.mro
  have made := F.called_set.made
  have sub := F.called_set.sub
  refine wpAny_call (codeAny_of_tree ?_); show wpAny _ _ (callAny (.type "set") _) _ _ _
  refine wpAny_pure ⟨Code.quiet_builtin _ (by decide +kernel), codeAny_builtin F.entry_type_call ?_⟩; rw [Around.under_plain (weight_type_call_type "set" [.ref l] []) rfl]
  have n1 := F.called_set.notType
  have n2 := F.called_set.canCreate
  have n3 := F.typeCall_set_1 (.ref l)
  repeat (any_goals (first | assumption | wp_step))
  refine codeAny_mono (code_set_led1 (.ref l) (E := E) (Q₁ := fun v s1 => v = .ref s.heap.objs.size ∧ s1 = { s with heap := s.heap.push (newSet w) }) ⟨rfl, rfl⟩) fun r s1 hr => ?_
  cases r with
  | error e => exact hr
  | ok fl =>
    cases fl with
    | ret obj =>
      obtain ⟨rfl, rfl⟩ := hr
      have hS : (s.heap.push (newSet w)).get? s.heap.objs.size = some (newSet w) := Heap.get?_push_size _ rfl
      have hT : Shared.TypeIs { s with heap := s.heap.push (newSet w) } (.ref s.heap.objs.size) "set" := ⟨_, hS, rfl⟩
      have il := F.called_set.init.lookup
      have ib := F.called_set.init.bind (.ref s.heap.objs.size)
      repeat (any_goals (first | assumption | wp_step))
      refine codeAny_mono (codeAny_call_builtin (R := wants (fun r s2 => r = .none ∧ ∃ h' tk L, s2 = { s with heap := h', toks := tk } ∧ TsR P w h' s.heap.objs.size L ∧ L.length ≤ ks.length ∧ (∀ x, x ∈ L ↔ x ∈ ks) ∧
          (∀ b o, s.heap.get? b = some o → h'.get? b = some o)) E) F.called_set.init.plain F.entry_set_init (check_set_init_1 hT ?_)) fun r2 s2 hr2 => ?_
      · obtain ⟨ol, hol, hcl, nl, hdl⟩ := hl
        obtain ⟨ocls, odict, odata, oslots⟩ := ol; simp only at hcl hdl; subst hcl; subst hdl
        have hol' : (s.heap.push (newSet w)).get? l = some { cls := .type "list", dict := odict, data := .seq items nl, slots := oslots } := Heap.get?_push_of_some _ hol
        have m1 := F.sub_list_set
        have m2 := F.sub_list_frozenset
        have m3 : (Value.type "list" == Value.type "dict") = false := by decide
        have hl1 : (s.heap.push (newSet w)).IsList l items := ⟨_, hol', rfl, nl, rfl⟩
        unfold Builtin.«set.__init__» noKeywords Builtin.Frozenset.updateFrom; generalize hPI : pyIter = PI
        wp_walk
        subst hPI
        refine wpAny_pyIter_list hl1 ?_; refine wpAny_bind (wpAny_runValue ?_)
        have lS : l < s.heap.objs.size := Heap.lt_size hol
        have noh : A.in1.in1.in1.handled = none := by simp [hh]
        have apart : l ≠ (s.heap.push (newSet w)).objs.size := by rw [Heap.size_push]; exact Nat.ne_of_lt (Nat.lt_succ_of_lt lS)
        have notin : s.heap.objs.size ∉ [(s.heap.push (newSet w)).objs.size, l] := by
          rw [Heap.size_push]; simp only [List.mem_cons, List.mem_singleton, List.not_mem_nil, or_false, not_or]; exact ⟨Nat.ne_of_lt (Nat.lt_succ_self _), Nat.ne_of_gt lS⟩
        have vals : ∀ (i : Nat) (v : Value), items[i]? = some v → ∃ k t, ks[i]? = some k ∧ v = .str k t := fun i v hv => strs_get hit i v (by rw [Array.getElem?_toList]; exact hv)
        refine ts_update ((Walks.list noh _ l apart items).toS) s.heap.objs.size notin ks hsz hb vals (items.size - 0) 0 _ (by omega) (Nat.zero_le _) ⟨⟨_, Heap.get?_push_size _ rfl, rfl, rfl⟩, (hl1.push _)⟩ ⟨[], ?_, Nat.le_refl 0, fun x => by simp⟩ ?_
        · exact ts_empty (Heap.get?_push_of_some _ hS)
        · intro s3 L mv hS3 hL3 hm3
          obtain ⟨h3, g3, d3, t3, os3⟩ := s3
          have eg : g3 = s.gens := mv.gens
          have ed : d3 = s.drawn := mv.drawn
          have eo : os3 = s.os := mv.os
          subst eg; subst ed; subst eo; show wpAny _ _ _ _ _ _
          refine wpAny_pure ?_; show wpAny _ _ (ret Value.none) _ _ _
          refine wpAny_pure ⟨rfl, h3, t3, L, rfl, hS3, by rw [← hsz]; exact hL3, hm3, fun b o e => ?_⟩
          have b0 : b < s.heap.objs.size := Heap.lt_size e
          have b2 : b ≠ (s.heap.push (newSet w)).objs.size := by rw [Heap.size_push]; exact Nat.ne_of_lt (Nat.lt_succ_of_lt b0)
          refine mv.heap b o ?_ (Heap.get?_push_of_some _ (Heap.get?_push_of_some _ e))
          simp only [List.mem_cons, List.mem_singleton, List.not_mem_nil, or_false, not_or]; exact ⟨Nat.ne_of_lt b0, b2⟩
      · cases r2 with
        | error e => exact hr2
        | ok fl2 =>
          cases fl2 with
          | ret r =>
            obtain ⟨rfl, h3, tk, L, rfl, q1, q2, q3, q4⟩ := hr2
            repeat (any_goals (first | assumption | wp_step))
            exact h _ _ _ q1 q2 q3 q4
          | _ => exact hr2.elim
    | _ => exact hr.elim
end
end Mp
namespace Mp
open PySem L2 PyProof.Rows PySem.Froz
def TsO (P : Program) (w : World) (a : Addr) (l : List Str) : HO := .ext fun h => TsR P w h a l
section
variable {P : Program} {w : World}
theorem tsO_new {H : Hp} {h : Heap} {a : Addr} {l : List Str} (R : TsR P w h a l) : ObjOk P w H h a (TsO P w a l) := by
  have ⟨D, r⟩ := R
  exact ⟨R, ⟨_, r.ob⟩, fun h1 h2 p k => TsR.keep p k⟩
def rSetTx (K : PySem.W.Frag) (P : Program) (w : World) : RL := fun xs H Q => ∃ (l : Addr) (ks : List Str), xs = [V.ref l] ∧ SqL K H l (ks.map V.str) ∧ ks.length < 64 ∧
  ∀ (a : Addr) (L : List Str), H a = none → L.length ≤ ks.length → (∀ x, x ∈ L ↔ x ∈ ks) → Q (.ref a) (upd H a (TsO P w a L))
theorem cr_setTx {X : Cx} (hc : X.calm = true) : CallR X (.type "set") (rSetTx X.K X.prog X.w) := by
  intro pins s σ H xs us Q I r h
  obtain ⟨l, ks, rfl, hl, hk, q⟩ := h
  rw [Vals.ref1 r]
  obtain ⟨its, rv, pl, hz⟩ := I.list hl
  have none : H s.heap.objs.size = none := I.hok.fresh (Nat.le_refl _)
  refine call_setTx (P := X.prog) (w := X.w) ks (I.ok.hd hc) pl.isList (by simpa using strs_of_vals rv) (by unfold scanBound; omega) fun h2 tk L R hL hm k => ?_
  exact ⟨.ref s.heap.objs.size, upd H s.heap.objs.size (TsO X.prog X.w s.heap.objs.size L), I.laid (t' := tk) k (Nat.le_refl _) (tsO_new R), rfl, q _ L none hL hm⟩
def rSortTx (P : Program) (w : World) : RL := fun vs H Q => ∃ (a : Addr) (L : List Str), vs = [V.ref a] ∧ H a = some (TsO P w a L) ∧ L.length < 64 ∧
  ∀ (ys : List Str) (p : Addr), ys.Nodup → (∀ x, x ∈ ys ↔ x ∈ L) → sortedS ys = true → H p = none → Q (.ref p) (upd H p (.lst (ys.map V.str)))
theorem perm_of_sub {α : Type} [DecidableEq α] : ∀ {l m : List α}, l.Nodup → (∀ x ∈ l, x ∈ m) → l.length = m.length → l.Perm m
  | [], m, _, _, hl => by
    have : m = [] := List.length_eq_zero_iff.mp hl.symm
    rw [this]
  | x :: l, m, nd, hs, hl => by
    obtain ⟨n1, n2⟩ := List.nodup_cons.mp nd
    have hx := hs x (List.mem_cons_self ..)
    have p := List.perm_cons_erase hx
    refine (List.Perm.cons x (perm_of_sub n2 (fun y hy => ?_) ?_)).trans p.symm
    · exact (List.mem_erase_of_ne (fun (e : y = x) => n1 (by rw [← e]; exact hy))).mpr (hs y (List.mem_cons_of_mem _ hy))
    · rw [List.length_erase_of_mem hx, ← hl, List.length_cons, Nat.add_sub_cancel]
theorem is_of {k : Str} {v : Value} (h : (strKind P w).is k v = true) : ∃ t, v = .str k t := by
  have h : Value.isStrOf k v = true := h
  cases v with
  | str x t =>
    have e : x = k := by simpa [Value.isStrOf] using h
    exact ⟨t, by rw [e]⟩
  | _ => simp [Value.isStrOf] at h
/-- the values of a set's rows are its texts, in some order -/
theorem ts_vals {D : SD} {l : List Str} (F : TxOk P w D l) (nd : l.Nodup) {vs : List Value} (pm : vs.Perm (D.1.toList.map (·.2))) : StrsAre vs (vs.map strOf) ∧ (vs.map strOf).Perm l := by
  have all : ∀ v ∈ D.1.toList.map (·.2), ∃ x t, v = .str x t := fun v hv => by
    obtain ⟨e, he, rfl⟩ := List.mem_map.mp hv
    obtain ⟨⟨k, hk, _⟩, _⟩ := F.el e he
    obtain ⟨t, q⟩ := is_of hk
    exact ⟨k, t, q⟩
  refine ⟨strsAre_map vs fun v hv => all v (pm.mem_iff.mp hv), (pm.map strOf).trans (List.Perm.symm (perm_of_sub nd (fun x hx => ?_) ?_))⟩
  · obtain ⟨e, he, q⟩ := (F.mem x).mp hx
    obtain ⟨t, q⟩ := is_of q
    rw [List.map_map]
    exact List.mem_map.mpr ⟨e, he, by show strOf e.2 = x; rw [q]; rfl⟩
  · rw [List.length_map, List.length_map, Array.length_toList]
    exact F.sz.symm
theorem cr_sortTx {X : Cx} (hc : X.calm = true) : CallR X (.builtin "sorted") (rSortTx X.prog X.w) := by
  intro pins s σ H vs us Q I r h
  obtain ⟨a, L, rfl, ha, few, q⟩ := h
  obtain ⟨D, R⟩ : TsR X.prog X.w s.heap a L := (I.hok a _ ha).1
  rw [Vals.ref1 r]
  have hsz : D.1.size = L.length := R.ok.sz
  refine PySem.Calls.call_function_entry kind_sorted plain_sorted entry_sorted (args_sorted1 _) ?_; unfold Builtin.«sorted»
  refine wpAny_bind (m := checkCount "sorted" 1 1 _) (wpAny_pure ?_)
  refine wpAny_bind (collect_set (A := X.A.in1) (t := D.2.2) (es := D.1) (ep := D.2.1) (I.ok.hd hc) ⟨_, R.ob, rfl, rfl⟩ R.ok.fit (by rw [hsz]; unfold scanBound; omega) R.ris R.led fun s1 vs k1 hz g1 o1 pm => ?_)
  obtain ⟨hS, hp⟩ := ts_vals R.ok R.nd pm
  have len : vs.length = L.length := by rw [← hp.length_eq, List.length_map]
  refine wpAny_bind (wpAny_newList ?_ (by rw [len, sizeLine_eq]; omega))
  have hoL : (s1.heap.push (seqObj "list" vs.toArray 0)).get? s1.heap.objs.size = some (seqObj "list" vs.toArray 0) := Heap.get?_push_size _ rfl
  refine wpAny_bind (wpAny_holding (wpAny_call_entry slot_list_sort ⟨_, hoL, rfl⟩ entry_list_sort (list_sort_treeK strKind_oneLt hoL hS.keysOf (fun v₁ v₂ rest e => keyKind_strs (by rw [← e]; exact hS)) (by rw [len]; exact few) fun st hp2 hs => ⟨_, rfl, ?_⟩) (args_list_sort _)))
  obtain ⟨ss, z1, z2, z3⟩ := sorted_out_str hS hp2 hs
  generalize (arrOf st).map (·.2) = out at z1
  obtain ⟨c, hcc⟩ := sortedHeap_at (vs := vs) (out := out) hoL
  have pL : ss.Perm L := z2.trans hp
  have keep : ∀ b o, s.heap.get? b = some o → (sortedHeap (s1.heap.push (seqObj "list" vs.toArray 0)) s1.heap.objs.size vs out).get? b = some o := fun b o e => by
    have e1 := k1 b o e
    have lt := Heap.lt_size e1
    rw [sortedHeap_old (Nat.ne_of_lt lt) (by rw [size_push']; exact Nat.lt_succ_of_lt lt)]
    exact Heap.get?_push_of_some _ e1
  have hn : H s1.heap.objs.size = none := I.hok.fresh hz
  have hlen : (ss.map V.str).length ≤ sizeLine := by rw [List.length_map, pL.length_eq, sizeLine_eq]; omega
  refine wpAny_pure ⟨_, rfl, ?_⟩
  have J : Inv X pins σ (upd H s1.heap.objs.size (.lst (ss.map V.str))) { s with heap := sortedHeap (s1.heap.push (seqObj "list" vs.toArray 0)) s1.heap.objs.size vs out, gens := s1.gens, drawn := s1.drawn, toks := s1.toks } :=
    I.call (ch := []) (Un.laid keep hz hn) (I.hok.laid keep hz ⟨hlen, out.toList, c, vals_of_strs z1, hcc⟩) (by rw [g1]; exact I.bare) (fun _ z => nomatch z)
  have e : ({ s1 with heap := sortedHeap (s1.heap.push (seqObj "list" vs.toArray 0)) s1.heap.objs.size vs out } : Shared) = { s with heap := sortedHeap (s1.heap.push (seqObj "list" vs.toArray 0)) s1.heap.objs.size vs out, gens := s1.gens, drawn := s1.drawn, toks := s1.toks } := by
    cases s1
    cases s
    cases o1
    rfl
  show EP X pins σ Q _ ({ s1 with heap := sortedHeap (s1.heap.push (seqObj "list" vs.toArray 0)) s1.heap.objs.size vs out } : Shared)
  rw [e]
  exact ⟨.ref s1.heap.objs.size, _, J, rfl, q ss _ (pL.nodup_iff.mpr R.nd) (fun x => pL.mem_iff) z3 hn⟩
end
end Mp
namespace Mp
open PySem L2 PyProof.Rows PySem.Froz PySem.Spec
theorem insC_mem {c x : Nat} : ∀ {l : List Nat}, x ∈ insC c l ↔ x = c ∨ x ∈ l
  | [] => by rw [insC]; simp
  | y :: ys => by
    rw [insC]
    split
    · rw [List.mem_cons]
    · split
      · rename_i h; subst h
        rw [List.mem_cons]
        constructor
        · exact .inr
        · rintro (h | h)
          · exact .inl h
          · exact h
      · rw [List.mem_cons, insC_mem, List.mem_cons]
        constructor
        · rintro (h | h | h)
          · exact .inr (.inl h)
          · exact .inl h
          · exact .inr (.inr h)
        · rintro (h | h | h)
          · exact .inr (.inl h)
          · exact .inl h
          · exact .inr (.inr h)
theorem sortC_mem {x : Nat} : ∀ {l : List Nat}, x ∈ sortC l ↔ x ∈ l
  | [] => by rw [sortC]
  | y :: ys => by rw [sortC, insC_mem, sortC_mem, List.mem_cons]
theorem insC_up {c : Nat} : ∀ {l : List Nat}, l.Pairwise (· < ·) → (insC c l).Pairwise (· < ·)
  | [], _ => by rw [insC]; exact List.pairwise_singleton _ _
  | y :: ys, h => by
    rw [insC]
    have hh := List.pairwise_cons.mp h
    split
    · rename_i hc
      refine List.pairwise_cons.mpr ⟨fun z hz => ?_, h⟩
      rcases List.mem_cons.mp hz with e | e
      · rw [e]; exact hc
      · have := hh.1 z e; omega
    · split
      · exact h
      · refine List.pairwise_cons.mpr ⟨fun z hz => ?_, insC_up hh.2⟩
        rcases insC_mem.mp hz with e | e
        · omega
        · exact hh.1 z e
theorem sortC_up : ∀ l : List Nat, (sortC l).Pairwise (· < ·)
  | [] => by rw [sortC]; exact List.Pairwise.nil
  | y :: ys => by rw [sortC]; exact insC_up (sortC_up ys)
theorem up_ext : ∀ {a b : List Nat}, a.Pairwise (· < ·) → b.Pairwise (· < ·) → (∀ x, x ∈ a ↔ x ∈ b) → a = b
  | [], [], _, _, _ => rfl
  | [], y :: b, _, _, h => absurd ((h y).mpr (List.mem_cons_self ..)) (by simp)
  | x :: a, [], _, _, h => absurd ((h x).mp (List.mem_cons_self ..)) (by simp)
  | x :: a, y :: b, ha, hb, h => by
    rw [List.pairwise_cons] at ha hb
    have e : x = y := by
      rcases List.mem_cons.mp ((h x).mp (List.mem_cons_self ..)) with e | e
      · exact e
      · rcases List.mem_cons.mp ((h y).mpr (List.mem_cons_self ..)) with e2 | e2
        · exact e2.symm
        · have := hb.1 x e
          have := ha.1 y e2
          omega
    subst e
    congr 1
    refine up_ext ha.2 hb.2 fun z => ⟨fun hz => ?_, fun hz => ?_⟩
    · rcases List.mem_cons.mp ((h z).mp (List.mem_cons_of_mem _ hz)) with e | e
      · have := ha.1 z hz; omega
      · exact e
    · rcases List.mem_cons.mp ((h z).mpr (List.mem_cons_of_mem _ hz)) with e | e
      · have := hb.1 z hz; omega
      · exact e
def sg1 (c : Nat) : Str := ⟨#[c]⟩
theorem sg1_cps (c : Nat) : (sg1 c).cps.toList = [c] := rfl
theorem sg1_inj {a b : Nat} (h : sg1 a = sg1 b) : a = b := by
  have := congrArg (fun x : Str => x.cps.toList) h
  rw [sg1_cps, sg1_cps] at this
  exact (List.cons.inj this).1
theorem rising_up : ∀ (cs : List Nat) (c : Nat), risingS (sg1 c) (cs.map sg1) = true → (sg1 c :: cs.map sg1).Nodup → (c :: cs).Pairwise (· < ·)
  | [], c, _, _ => List.pairwise_singleton _ _
  | d :: cs, c, h, nd => by
    have h : (!ltCps (sg1 d).cps.toList (sg1 c).cps.toList && risingS (sg1 d) (cs.map sg1)) = true := h
    rw [Bool.and_eq_true, Bool.not_eq_true', ltCps_eq, sg1_cps, sg1_cps] at h
    rw [List.map_cons] at nd
    obtain ⟨n1, n2⟩ := List.nodup_cons.mp nd
    have ih := rising_up cs d h.2 n2
    have ne : c ≠ d := fun e => n1 (by rw [e]; exact List.mem_cons_self ..)
    have nlt : ¬ d < c := fun z => by
      have := of_decide_eq_false h.1
      exact this (List.cons_lt_cons_iff.mpr (.inl z))
    have lt : c < d := by omega
    refine List.pairwise_cons.mpr ⟨fun z hz => ?_, ih⟩
    rcases List.mem_cons.mp hz with e | e
    · rw [e]; exact lt
    · have := (List.pairwise_cons.mp ih).1 z e
      omega
theorem sorted_up {cs : List Nat} (h : sortedS (cs.map sg1) = true) (nd : (cs.map sg1).Nodup) : cs.Pairwise (· < ·) := by
  cases cs with
  | nil => exact List.Pairwise.nil
  | cons c cs => exact rising_up cs c h nd
theorem all_sg1 : ∀ {ys : List Str}, (∀ y ∈ ys, ∃ c, y = sg1 c) → ∃ cs : List Nat, ys = cs.map sg1
  | [], _ => ⟨[], rfl⟩
  | y :: ys, h => by
    obtain ⟨c, e⟩ := h y (List.mem_cons_self ..)
    obtain ⟨cs, e2⟩ := all_sg1 fun z hz => h z (List.mem_cons_of_mem _ hz)
    exact ⟨c :: cs, by rw [e, e2]; rfl⟩
theorem allSign_eq : ∀ {xs : List D} {cs : List Nat}, allSign xs = some cs → xs = (cs.map fun c => [c]).map D.str
  | [], cs, h => by cases h; rfl
  | x :: xs, cs, h => by
    match x, h with
    | .str [c], h =>
      obtain ⟨r, e, rfl⟩ := Option.map_eq_some_iff.mp (show (allSign xs).map (c :: ·) = some cs from h)
      rw [allSign_eq e]
      rfl
def rSset (K : PySem.W.Frag) (P : Program) (w : World) : RL := fun vs H Q => rSetTx K P w vs H fun v H2 => rSortTx P w [v] H2 Q
theorem okx_sset {K : KW} {P : Program} {w : World} : OpOk K (rSset K.K P w) .sset := by
  intro vs ds d H G Q hr sg ho k
  obtain ⟨a, rfl, hf⟩ := sem1_some ho
  obtain ⟨v1, w1, rfl, h1⟩ := hr.one
  unfold semSset at hf
  split at hf
  · obtain ⟨cs, e, e2⟩ := Option.bind_eq_some_iff.mp hf
    split at e2
    · rename_i hl
      cases e2
      obtain ⟨p, vs, rfl, s, ws, rv⟩ := h1.lst_inv sg
      rw [allSign_eq e] at rv
      have es : ((cs.map fun c => [c]).map fun s => (⟨s.toArray⟩ : Str)) = cs.map sg1 := by
        rw [List.map_map]
        rfl
      rw [rv.strs, es] at s
      refine ⟨p, cs.map sg1, rfl, s, by rw [List.length_map]; exact hl, fun a L hn hL hm => ⟨a, L, rfl, upd_same, by rw [List.length_map] at hL; omega, fun ys q nd mm so hq => ?_⟩⟩
      obtain ⟨cs', rfl⟩ := all_sg1 (ys := ys) fun y hy => by
        obtain ⟨c, _, e⟩ := List.mem_map.mp ((hm y).mp ((mm y).mp hy))
        exact ⟨c, e.symm⟩
      have e : cs' = sortC cs := by
        refine up_ext (sorted_up so nd) (sortC_up cs) fun x => ?_
        have mem1 : ∀ l : List Nat, sg1 x ∈ l.map sg1 ↔ x ∈ l := fun l => ⟨fun h => by
          obtain ⟨c, hc, e⟩ := List.mem_map.mp h
          rw [← sg1_inj e]; exact hc, List.mem_map_of_mem⟩
        rw [sortC_mem, ← mem1 cs', ← mem1 cs, mm, hm]
      subst e
      have f1 := Eff.lay sg hn (TsO P w a L)
      have f2 := Eff.layO f1.gh hq (.lst (((sortC cs).map sg1).map V.str))
      have rvs : RVs K (upd G a (TsO P w a L)) (upd (upd H a (TsO P w a L)) q (.lst (((sortC cs).map sg1).map V.str))) (((sortC cs).map sg1).map V.str) ((sortC cs).map fun c => D.str [c]) [] := by
        generalize sortC cs = l
        generalize upd (upd H a (TsO P w a L)) q _ = HH
        induction l with
        | nil => exact .nil
        | cons c l ih => exact .cons (o1 := []) (o2 := []) (.str [c]) ih
      refine k (.ref q) _ (upd G a (TsO P w a L)) [q] (.own upd_same rvs) ⟨f1.same.trans f2.same, f1.sg, f2.gh, f1.old, fun b hb => ?_, f2.once⟩
      obtain ⟨n1, n2, n3⟩ := f2.new b hb
      have eb : b = q := by simpa using hb
      subst eb
      have nb : H b = none := by
        by_cases eb : b = a
        · rw [eb, upd_same] at n1; cases n1
        · rwa [upd_ne eb] at n1
      exact ⟨nb, n2, n3⟩
    · cases e2
  · cases hf
end Mp
/-! Is a piece of the small Python the program's own text? -/
namespace Mp
open PySem L2
structure Gam where
  N : List Str
  sc : Scope
  fn : Str → Bool
  fns : List Str
  cs : List (Str × D)
  bl : List Str
def visB (sc : Scope) (x : Str) : Bool := match sc.names.lookup x with
  | some .local => true
  | some .cell => true
  | some .free => true
  | _ => false
def locB (sc : Scope) (x : Str) : Bool := match sc.names.lookup x with
  | some .local => true
  | some .cell => true
  | _ => false
def glB (sc : Scope) (x : Str) : Bool := match sc.names.lookup x with
  | some .globalImplicit => true
  | _ => false
def plainName (x : Str) : Bool := !(x == ("__debug__" : Str)) && !(x == ("__classdict__" : Str)) && !(x == ("__name__" : Str))
theorem plainName_ok {x : Str} (h : plainName x = true) : (x == ("__debug__" : Str)) = false ∧ (x == ("__classdict__" : Str)) = false ∧ x ≠ "__name__" := by
  unfold plainName at h
  simp only [Bool.and_eq_true, Bool.not_eq_true', beq_eq_false_iff_ne] at h
  exact ⟨beq_eq_false_iff_ne.mpr h.1.1, beq_eq_false_iff_ne.mpr h.1.2, h.2⟩
/-- the name of a slot -/
def slotB (g : Gam) (i : Nat) (x : Str) : Bool := decide (g.N[i]? = some x) && plainName x
def notStar : Expr → Bool
  | .Starred .. => false
  | _ => true
def notSet : Expr → Bool
  | .Set .. => false
  | _ => true
/-- what may stand as a plain index -/
def ixB : Expr → Bool
  | .Slice .. => false
  | _ => true
def bltB (g : Gam) (x : Str) : Bool := glB g.sc x && (g.bl.contains x && plainName x)
/-- sep, of sep.join -/
def litB : Expr → Bool
  | .Constant .. => true
  | _ => false
/-- the operands as they are written -/
def opArgs (g : Gam) (o : Op) (e : Expr) : Option (List Expr) := match o with
  | .add => (match e with
    | .BinOp a .Add b _ => some [a, b]
    | _ => none)
  | .sub => (match e with
    | .BinOp a .Sub b _ => some [a, b]
    | _ => none)
  | .mul => (match e with
    | .BinOp a .Mult b _ => some [a, b]
    | _ => none)
  | .fdiv => (match e with
    | .BinOp a .FloorDiv b _ => some [a, b]
    | _ => none)
  | .md => (match e with
    | .BinOp a .Mod b _ => some [a, b]
    | _ => none)
  | .pow => (match e with
    | .BinOp a .Pow b _ => some [a, b]
    | _ => none)
  | .eq => (match e with
    | .Compare a [.Eq] [b] _ => some [a, b]
    | _ => none)
  | .ne => (match e with
    | .Compare a [.NotEq] [b] _ => some [a, b]
    | _ => none)
  | .lt => (match e with
    | .Compare a [.Lt] [b] _ => some [a, b]
    | _ => none)
  | .le => (match e with
    | .Compare a [.LtE] [b] _ => some [a, b]
    | _ => none)
  | .gt => (match e with
    | .Compare a [.Gt] [b] _ => some [a, b]
    | _ => none)
  | .ge => (match e with
    | .Compare a [.GtE] [b] _ => some [a, b]
    | _ => none)
  | .isin => (match e with
    | .Compare a [.In] [b] _ => if behindInMarks .In b then none else some [a, b]
    | _ => none)
  | .notin => (match e with
    | .Compare a [.NotIn] [b] _ => if behindInMarks .NotIn b then none else some [a, b]
    | _ => none)
  | .isN => (match e with
    | .Compare a [.Is] [.Constant .none _ _] _ => some [a]
    | _ => none)
  | .notN => (match e with
    | .Compare a [.IsNot] [.Constant .none _ _] _ => some [a]
    | _ => none)
  | .ix => (match e with
    | .Subscript a b _ => if ixB b then some [a, b] else none
    | _ => none)
  | .rev => (match e with
    | .Subscript a (.Slice none none (some (.UnaryOp .USub (.Constant (.int 1) _ _) _)) _) _ => some [a]
    | _ => none)
  | .len => (match e with
    | .Call (.Name x _) [a] [] _ => if x == ("len" : Str) && bltB g x && notStar a then some [a] else none
    | _ => none)
  | .sorted => (match e with
    | .Call (.Name x _) [a] [] _ => if x == ("sorted" : Str) && bltB g x && notStar a then some [a] else none
    | _ => none)
  | .tuple => (match e with
    | .Call (.Name x _) [a] [] _ => if x == ("tuple" : Str) && bltB g x && notStar a then some [a] else none
    | _ => none)
  | .list => (match e with
    | .Call (.Name x _) [a] [] _ => if x == ("list" : Str) && bltB g x && notStar a then some [a] else none
    | _ => none)
  | .all => (match e with
    | .Call (.Name x _) [a] [] _ => if x == ("all" : Str) && bltB g x && notStar a then some [a] else none
    | _ => none)
  | .any => (match e with
    | .Call (.Name x _) [a] [] _ => if x == ("any" : Str) && bltB g x && notStar a then some [a] else none
    | _ => none)
  | .join => (match e with
    | .Call (.Attribute a x ap) [b] [] p => if x == ("join" : Str) && litB a && notStar b && ap.endLine == p.line then some [a, b] else none
    | _ => none)
  | .isi k => (match e with
    | .Call (.Name x _) [a, .Name t _] [] _ => if x == ("isinstance" : Str) && (bltB g x && (notStar a && (decide (k < 6) && (t == PySem.Str.ofString (tyS k) && bltB g t)))) then some [a] else none
    | _ => none)
  | .toInt => (match e with
    | .Call (.Name x _) [a] [] _ => if x == ("int" : Str) && bltB g x && notStar a then some [a] else none
    | _ => none)
  | .repl i y z => (match e with
    | .Call (.Attribute (.Subscript a (.Constant (.int j) _ _) _) x ap) [.Constant (.str y') _ _, .Constant (.str z') _ _] [] p => if x == ("replace" : Str) && (decide (i = j) && (decide (y' = ⟨y.toArray⟩) && (decide (z' = ⟨z.toArray⟩) && (!(y' == z') && ap.endLine == p.line)))) then some [a] else none
    | _ => none)
  | .sset => (match e with
    | .Call (.Name x _) [.Call (.Name y _) [a] [] _] [] _ => if x == ("sorted" : Str) && (bltB g x && (y == ("set" : Str) && (bltB g y && notStar a))) then some [a] else none
    | _ => none)
  | .sl l h => (match l, h, e with
    | false, false, .Subscript a (.Slice none none none _) _ => some [a]
    | true, false, .Subscript a (.Slice (some b) none none _) _ => some [a, b]
    | false, true, .Subscript a (.Slice none (some b) none _) _ => some [a, b]
    | true, true, .Subscript a (.Slice (some b) (some c) none _) _ => some [a, b, c]
    | _, _, _ => none)
def cmpOp : Op → Option CmpOp
  | .eq => some .Eq | .ne => some .NotEq | .lt => some .Lt | .le => some .LtE | .gt => some .Gt | .ge => some .GtE
  | _ => none
def isBw : ME → Bool
  | .bw _ => true
  | _ => false
/-- operands whose kind is asked ahead of the next one -/
def strictB : Op → MEs → Bool
  | .join, .cons a _ => !isBw a
  | .sl _ _, .cons _ (.cons b _) => !isBw b
  | _, _ => true
def isBlTrue : ME → Bool
  | .c (.bl true) => true
  | _ => false
/-- a test's shape -/
def tOk : Expr → ME → Bool
  | e, .and a b => (match e with
    | .BoolOp .And (x :: y :: rest) p => tOk x a && (match rest with
      | [] => tOk y b
      | z :: r => tOk (.BoolOp .And (y :: z :: r) p) b)
    | _ => false)
  | e, .or a b => (match e with
    | .BoolOp .Or (x :: y :: rest) p => tOk x a && (match rest with
      | [] => tOk y b
      | z :: r => tOk (.BoolOp .Or (y :: z :: r) p) b)
    | _ => false)
  | e, .not a => (match e with
    | .UnaryOp .Not x _ => tOk x a
    | _ => false)
  | e, _ => (match e with
    | .Name .. => true
    | .Call .. => true
    | .Constant .. => true
    | .Subscript .. => true
    | .Compare .. => true
    | _ => false)
def tgIn : Tg → List Nat → Bool
  | .nm i, own => own.contains i
  | .tp is, own => is.all own.contains
  | .tn is j, own => is.all own.contains && own.contains j
def tgB (g : Gam) : Tg → Expr → Bool
  | .nm i, .Name x _ => slotB g i x && (locB g.sc x && (g.fn x || decide (g.sc.names.lookup x = some .local)))
  | .tp is, .Tuple es _ _ => es.length == is.length && (is.zip es).all fun p => match p.2 with
    | .Name x _ => slotB g p.1 x && (locB g.sc x && (g.fn x || decide (g.sc.names.lookup x = some .local)))
    | _ => false
  | .tn is j, .Tuple [.Tuple es _ _, .Name x _] _ _ => (es.length == is.length && (is.zip es).all fun p => match p.2 with
    | .Name x _ => slotB g p.1 x && (locB g.sc x && (g.fn x || decide (g.sc.names.lookup x = some .local)))
    | _ => false) && (slotB g j x && (locB g.sc x && (g.fn x || decide (g.sc.names.lookup x = some .local))))
  | _, _ => false
def isTupE : Expr → Bool
  | .Tuple .. => true
  | _ => false
/-- enumerate wants a tuple for its target -/
def tupNeed : MI → Expr → Bool
  | .enum _, t => isTupE t
  | _, _ => true
def inner (g : Gam) (scope : Scope) : Gam := { g with sc := relS scope g.sc, fn := fun x => scope.names.lookup x == some .cell }
def ownOf (g : Gam) (own : List Nat) : List (Str × Nat) := own.map fun i => (g.N.getD i Str.empty, i)
def constB (e : Expr) (d : D) : Bool := match e, d with
  | .Constant (.int i) _ _, .int j => decide (i = j)
  | .UnaryOp .USub (.Constant (.int i) _ _) _, .int j => decide (j = -i)
  | .Constant (.bool i) _ _, .bl j => decide (i = j)
  | .Constant .none _ _, .non => true
  | .Constant (.str x) _ _, .str s => decide (x = ⟨s.toArray⟩)
  | _, _ => false
def sameC (a b : D) : Bool := match a, b with
  | .int i, .int j => decide (i = j)
  | .str s, .str t => decide (s = t)
  | _, _ => false
def nameB (g : Gam) (e : Expr) (i : Nat) : Bool := match e with
  | .Name x _ => slotB g i x && visB g.sc x
  | _ => false
def notCmp : Expr → Bool
  | .Compare .. => false
  | _ => true
mutual
def chkE (g : Gam) : Expr → ME → Bool
  | e, .c d => constB e d
  | e, .dnew => (match e with
    | .Dict [] [] _ => true
    | _ => false)
  | e, .d1 k v => (match e with
    | .Dict [some x] [y] _ => chkE g x k && chkE g y v
    | _ => false)
  | e, .thaw i m => notCmp e && chkE g e m
  | e, .l4r a b k i y z c => (match e with
    | .List [e1, .Subscript e2 (.Slice none (some (.Constant (.int j) _ _)) none _) _, .Call (.Attribute (.Name x xp) m ap) [.Constant (.str y') _ _, .Constant (.str z') _ _] [] p, e4] _ =>
      chkE g e1 a && (chkE g e2 b && (decide (j = k) && (nameB g (.Name x xp) i && (m == ("replace" : Str) && (decide (y' = ⟨y.toArray⟩) && (decide (z' = ⟨z.toArray⟩) && (!(y' == z') && (ap.endLine == p.line && (notStar e1 && (notStar e4 && chkE g e4 c))))))))))
    | _ => false)
  | e, .gc y d => (match e with
    | .Name x _ => decide (x = y) && (glB g.sc x && (plainName x && g.cs.any fun p => decide (p.1 = x) && sameC p.2 d))
    | _ => false)
  | e, .cp i => nameB g e i
  | e, .sh i => nameB g e i
  | e, .mv i => nameB g e i
  | e, .bw i => nameB g e i
  | e, .bm i => nameB g e i
  | e, .op o as => (match opArgs g o e with
    | some es => strictB o as && chkEs g es as
    | none => false)
  | e, .dsp t as => (match e with
    | .Tuple es _ _ => t && (es.all notStar && chkEs g es as)
    | .List es _ => !t && (es.all notStar && chkEs g es as)
    | _ => false)
  | e, .and a b => (match e with
    | .BoolOp .And (x :: y :: rest) p => chkE g x a && (match rest with
      | [] => chkE g y b
      | z :: r => chkE g (.BoolOp .And (y :: z :: r) p) b)
    | _ => false)
  | e, .or a b => (match e with
    | .BoolOp .Or (x :: y :: rest) p => chkE g x a && (match rest with
      | [] => chkE g y b
      | z :: r => chkE g (.BoolOp .Or (y :: z :: r) p) b)
    | _ => false)
  | e, .orT a b => (match e with
    | .BoolOp .Or [x, y] _ => chkE g x a && chkE g y b
    | _ => false)
  | e, .not a => (match e with
    | .UnaryOp .Not x _ => chkE g x a
    | _ => false)
  | e, .ife c a b => (match e with
    | .IfExp t x y _ => chkE g t c && (tOk t c && (chkE g x a && chkE g y b))
    | _ => false)
  | e, .chain p q a b c => (match e with
    | .Compare x [o, o'] [y, z] _ => decide (cmpOp p = some o) && (decide (cmpOp q = some o') && (chkE g x a && (chkE g y b && chkE g z c)))
    | _ => false)
  | e, .call f as => (match e with
    | .Call (.Name x _) es [] _ => decide (g.fns[f]? = some x) && (glB g.sc x && (plainName x && (es.all notStar && chkEs g es as)))
    | _ => false)
  | e, .lc own tg mi cond elt => (match e with
    | .ListComp el [⟨t, it, ifs, k⟩] scope _ => decide (k = 0) && (decide own.Nodup && (tgIn tg own && tupNeed mi t)) && (blkC g.N g.sc scope (ownOf g own) && (notSet it && (chkI g it mi && (tgB (inner g scope) tg t &&
      ((match ifs with
        | [] => isBlTrue cond
        | [c] => chkE (inner g scope) c cond && tOk c cond
        | _ => false) && chkE (inner g scope) el elt)))))
    | _ => false)
def chkEs (g : Gam) : List Expr → MEs → Bool
  | es, .nil => es.isEmpty
  | es, .cons a r => (match es with
    | e :: es => chkE g e a && chkEs g es r
    | _ => false)
def chkI (g : Gam) : Expr → MI → Bool
  | e, .rng1 m => (match e with
    | .Call (.Name x _) [a] [] _ => x == ("range" : Str) && (bltB g x && (notStar a && chkE g a m))
    | _ => false)
  | e, .rng2 m n => (match e with
    | .Call (.Name x _) [a, b] [] _ => x == ("range" : Str) && (bltB g x && (notStar a && (notStar b && (chkE g a m && chkE g b n))))
    | _ => false)
  | e, .seq m => chkE g e m
  | e, .enum m => (match e with
    | .Call (.Name x _) [a] [] _ => x == ("enumerate" : Str) && (bltB g x && (notStar a && chkE g a m))
    | _ => false)
  | e, .zip m n => false
end
end Mp
namespace Mp
open PySem L2
section
variable {K : KW} {call : CallF} {G G' H H' : Hp} {σ : L2.St} {e e' : Env} {F F' : Fm} {i : Nat} {v : V} {d : D} {ws : List Addr}
theorem set_same {α : Type} {l : List α} {x : α} (h : l[i]? = some x) : l.set i x = l := by
  apply List.ext_getElem?
  intro j
  by_cases e : i = j
  · subst e
    rw [List.getElem?_set_self (List.getElem?_eq_some_iff.mp h).1, h]
  · rw [List.getElem?_set_ne e]
theorem Rep.len (r : Rep K σ H G e F) : σ.length = e.length := by
  obtain ⟨os, r1, _⟩ := r
  exact r1.length
theorem Rep.there (r : Rep K σ H G e F) {a : Addr} (h : 0 < F a) : H a ≠ none := by
  obtain ⟨os, _, _, r3⟩ := r
  exact ((r3 a).2 (by show 0 < os.count a + F a; omega)).2
/-- what a slot holds is taken out -/
theorem Rep.take (r : Rep K σ H G e F) (h : get e i ≠ .hole) : ∃ v ws, σ[i]? = some (some v) ∧ RV K G H v (get e i) ws ∧ Rep K σ H G (e.set i .hole) (plus ws F) := by
  obtain ⟨os, r1, r2, r3⟩ := r
  obtain ⟨o, o1, o2, h1, h2, h3, h4⟩ := r1.at i (lt_of_get h)
  cases o with
  | none =>
    generalize get e i = d at h h2
    cases h2
    exact absurd rfl h
  | some v =>
    cases h2 with
    | some h2 =>
      obtain ⟨os', q1, q2⟩ := h4 (some v) .hole [] (.some (.hole v))
      rw [set_same h1] at q1
      refine ⟨v, o1, h1, h2, os', q1, r2, r3.le fun a => ?_⟩
      have z1 := q2 a
      have z2 := h3 a
      show os'.count a + plus o1 F a ≤ os.count a + F a
      unfold plus
      simp at z1
      omega
/-- .. and put in -/
theorem Rep.put (r : Rep K σ H G e (plus ws F)) (hσ : σ[i]? = some (some v)) (h : RV K G H v d ws) : Rep K σ H G (e.set i d) F := by
  have hl : i < e.length := by rw [← r.len]; exact (List.getElem?_eq_some_iff.mp hσ).1
  obtain ⟨os, r1, r2, r3⟩ := r
  obtain ⟨o, o1, o2, h1, h2, h3, h4⟩ := r1.at i hl
  obtain ⟨os', q1, q2⟩ := h4 (some v) d ws (.some h)
  rw [set_same hσ] at q1
  refine ⟨os', q1, r2, r3.le fun a => ?_⟩
  have z1 := q2 a
  have z2 := h3 a
  show os'.count a + F a ≤ os.count a + plus ws F a
  unfold plus
  omega
/-- a slot stored anew -/
theorem Rep.store (r : Rep K σ H G e (plus ws F)) (hi : i < e.length) (h : RV K G H v d ws) : Rep K (σ.set i (some v)) H G (e.set i d) F := by
  obtain ⟨os, r1, r2, r3⟩ := r
  obtain ⟨o, o1, o2, h1, h2, h3, h4⟩ := r1.at i hi
  obtain ⟨os', q1, q2⟩ := h4 (some v) d ws (.some h)
  refine ⟨os', q1, r2, r3.le fun a => ?_⟩
  have z1 := q2 a
  have z2 := h3 a
  show os'.count a + F a ≤ os.count a + plus ws F a
  unfold plus
  omega
/-- what is held elsewhere is to be changed no more -/
theorem Rep.freeze (r : Rep K σ H G e (plus ws F)) : ∃ G', Same G G' ∧ (∀ a ∈ ws, G' a = H a) ∧ Rep K σ H G' e F := by
  obtain ⟨os, r1, r2, r3⟩ := r
  have ng : ∀ a ∈ ws, G a = none := fun a ha => ((r3 a).2 (by have := plus_pos (F := F) ha; show 0 < os.count a + plus ws F a; omega)).1
  let G' : Hp := fun a => if a ∈ ws then H a else G a
  have sg : Same G G' := fun a o h => by
    show (if a ∈ ws then H a else G a) = some o
    split
    · rename_i q
      rw [ng a q] at h
      cases h
    · exact h
  refine ⟨G', sg, fun a ha => if_pos ha, os, r1.move sg fun _ _ => rfl, fun a o h => ?_, fun a => ?_⟩
  · have h : (if a ∈ ws then H a else G a) = some o := h
    split at h
    · exact h
    · exact r2 a o h
  · have z : os.count a + (ws.count a + F a) ≤ 1 ∧ (0 < os.count a + (ws.count a + F a) → G a = none ∧ H a ≠ none) := r3 a
    refine ⟨by show os.count a + F a ≤ 1; omega, fun q => ?_⟩
    have q : 0 < os.count a + F a := q
    have nw : a ∉ ws := fun ha => by
      have := count_pos.mp ha
      omega
    exact ⟨by show (if a ∈ ws then H a else G a) = none; rw [if_neg nw]; exact (z.2 (by omega)).1, (z.2 (by omega)).2⟩
end

def spOf (K : KW) (call : CallF) (f : Nat) : Sp := fun vs H Q _ => ∃ G F ds ws d outs, RVs K G H vs ds ws ∧ Same G H ∧ Lin G H (plus ws F) ∧ call f ds = some (d, outs) ∧
  ∀ v H' G' w1 w2, RV K G' H' v d w1 → RVs K G' H' vs outs w2 → Same G G' → Same G' H' → Lin G' H' (plus (w1 ++ w2) F) → (∀ a, 0 < F a → H' a = H a) → Q v H'
/-- what is known of where a body runs -/
structure Good (g : Gam) (X : Cx) (call : CallF) (n : Nat) : Prop where
  N : X.N = g.N
  nd : g.N.Nodup
  sc : X.env.scope = g.sc
  fn : X.fn = g.fn
  calm : X.calm = true
  xe : X.xe = fun _ _ => False
  room : Room n X.A
  bl : ∀ x, g.bl.contains x = true → X.mg x = none
  cs : ∀ p ∈ g.cs, ∃ u v, X.mg p.1 = some u ∧ RelV v u ∧ ∀ G H, RV X.kw G H v p.2 []
  fns : ∀ f x, g.fns[f]? = some x → ∃ a fd ps, X.mg x = some (.ref a) ∧ PySem.W.keepIn X.K (.ref a) = true ∧ Binds X.K fd ps [] ∧ FnOk X.prog X.w X.K X.mg X.base CX0 n a fd ps (spOf X.kw call f)
section
variable {g : Gam} {X : Cx} {call : CallF} {n : Nat}
theorem Good.vis (h : Good g X call n) {x : Str} (v : visB g.sc x = true) : Vis X.env.scope x := by
  rw [h.sc]
  unfold visB at v
  split at v
  · rename_i e; exact .inl e
  · rename_i e; exact .inr (.inl e)
  · rename_i e; exact .inr (.inr e)
  · cases v
theorem Good.gl (h : Good g X call n) {x : Str} (v : glB g.sc x = true) : Gl X x := by
  show X.env.scope.names.lookup x = some .globalImplicit
  rw [h.sc]
  unfold glB at v
  split at v
  · rename_i e; exact e
  · cases v
theorem Good.u (h : Good g X call n) : X.A.units + 64 < cLine := h.room.units
/-- values that are there, as they are -/
theorem rd_val {m : ME} {σ : L2.St} {H : Hp} {Q : VK} (h : rd X.kw call m σ H Q) {v : V} {d : D} (hv : ∀ G H, RV X.kw G H v d []) (he : ∀ e, mev call m e = .ok d e) (av : AV m σ v) : Q v H := by
  obtain ⟨G, e, F, d', e', rep, ev, k⟩ := h
  rw [he e] at ev
  cases ev
  exact k v H G [] (hv G H) (rep.le fun a => by unfold plus; simp) (fun _ _ h => h) (fun _ _ => rfl) av
theorem pe_const {e : Expr} {d : D} (h : constB e d = true) : PE X e (rd X.kw call (.c d)) := by
  unfold constB at h
  split at h
  · have e := of_decide_eq_true h
    subst e
    exact Mp.PE.mono pe_int fun σ H Q q => rd_val q (fun _ _ => .int _) (fun e => by rw [mev]) trivial
  · have e := of_decide_eq_true h
    subst e
    exact Mp.PE.mono (pe_un un_neg pe_int) fun σ H Q q => ⟨_, rfl, rd_val q (fun _ _ => .int _) (fun e => by rw [mev]) trivial⟩
  · have e := of_decide_eq_true h
    subst e
    exact Mp.PE.mono pe_bl fun σ H Q q => rd_val q (fun _ _ => .bl _) (fun e => by rw [mev]) trivial
  · exact Mp.PE.mono pe_non fun σ H Q q => rd_val q (fun _ _ => .non) (fun e => by rw [mev]) trivial
  · have e := of_decide_eq_true h
    subst e
    exact Mp.PE.mono pe_str fun σ H Q q => rd_val q (fun _ _ => .str _) (fun e => by rw [mev]) trivial
  · cases h
theorem pe_dnewM {pos : Pos} : PE X (.Dict [] [] pos) (rd X.kw call .dnew) := Mp.PE.mono pe_dnewK fun σ H Q q => by
  obtain ⟨G, e, F, d', e', rep, ev, k⟩ := q
  rw [mev] at ev
  cases ev
  intro p hp
  have f := Eff.layO rep.same hp (.dK [])
  exact k (.ref p) _ G [p] (.dic (kvs := []) upd_same .nil) (rep.eff f) f.sg (fun a ha => f.keep (rep.there ha)) trivial
theorem pe_gcM {x : Str} {d : D} {pos : Pos} (h : Good g X call n) (hg : glB g.sc x = true) (hp : plainName x = true) (hc : (g.cs.any fun p => decide (p.1 = x) && sameC p.2 d) = true) : PE X (.Name x pos) (rd X.kw call (.gc x d)) := by
  obtain ⟨p, hp1, hp2⟩ := List.any_eq_true.mp hc
  rw [Bool.and_eq_true] at hp2
  have e := of_decide_eq_true hp2.1
  obtain ⟨u, v, m1, m2, m3⟩ := h.cs p hp1
  have ed : p.2 = d := by
    have z := hp2.2
    unfold sameC at z
    split at z
    · rename_i q1; rw [q1, of_decide_eq_true z]
    · rename_i q1; rw [q1, of_decide_eq_true z]
    · cases z
  rw [e] at m1
  rw [ed] at m3
  exact Mp.PE.mono (pe_glob (h.gl hg) m1 m2 (plainName_ok hp).1) fun σ H Q q => rd_val q m3 (fun e => by rw [mev]) trivial
theorem pe_nameM (h : Good g X call n) {i : Nat} {e : Expr} (hn : nameB g e i = true) {t : TE} (k : ∀ σ H Q, t σ H Q → tVar i σ H Q) : PE X e t := by
  unfold nameB at hn
  split at hn
  · rename_i x p
    rw [Bool.and_eq_true] at hn
    unfold slotB at hn
    rw [Bool.and_eq_true] at hn
    obtain ⟨p1, p2, _⟩ := plainName_ok hn.1.2
    exact Mp.PE.mono (pe_var (by rw [h.N]; exact of_decide_eq_true hn.1.1) (h.vis hn.2) p1 p2) k
  · cases hn
theorem pe_cp (h : Good g X call n) {i : Nat} {e : Expr} (hn : nameB g e i = true) : PE X e (rd X.kw call (.cp i)) := pe_nameM h hn fun σ H Q q => by
  obtain ⟨G, e, F, d', e', rep, ev, k⟩ := q
  rw [mev] at ev
  split at ev
  · rename_i c
    cases ev
    have nh : get e i ≠ .hole := fun z => by rw [z] at c; simp [clean] at c
    obtain ⟨v, ws, q1, q2, _⟩ := rep.slot nh
    have := q2.clean_nil c
    subst this
    exact ⟨v, q1, k v H G [] q2 (rep.le fun a => by unfold plus; simp) (fun _ _ h => h) (fun _ _ => rfl) trivial⟩
  · cases ev
theorem pe_lentM (h : Good g X call n) {i : Nat} {e : Expr} (hn : nameB g e i = true) {m : ME} (hm : ∀ e : Env, mev call m e = if isHole (get e i) then .no else .ok .hole e) (ha : ∀ σ v, σ[i]? = some (some v) → AV m σ v) : PE X e (rd X.kw call m) := pe_nameM h hn fun σ H Q q => by
  obtain ⟨G, e, F, d', e', rep, ev, k⟩ := q
  rw [hm] at ev
  split at ev
  · cases ev
  · rename_i c
    cases ev
    obtain ⟨v, ws, q1, q2, _⟩ := rep.slot (isHole_ne (by simpa using c))
    exact ⟨v, q1, k v H G [] (.hole v) (rep.le fun a => by unfold plus; simp) (fun _ _ h => h) (fun _ _ => rfl) (ha σ v q1)⟩
theorem whole_ne {d : D} (h : whole d = true) : d ≠ .hole := by
  rintro rfl
  simp [whole] at h
theorem pe_mvM (h : Good g X call n) {i : Nat} {e : Expr} (hn : nameB g e i = true) : PE X e (rd X.kw call (.mv i)) := pe_nameM h hn fun σ H Q q => by
  obtain ⟨G, e, F, d', e', rep, ev, k⟩ := q
  rw [mev] at ev
  split at ev
  · rename_i c
    cases ev
    obtain ⟨v, ws, q1, q2, q3⟩ := rep.take (whole_ne c)
    exact ⟨v, q1, k v H G ws q2 q3 (fun _ _ h => h) (fun _ _ => rfl) trivial⟩
  · cases ev
theorem pe_shM (h : Good g X call n) {i : Nat} {e : Expr} (hn : nameB g e i = true) : PE X e (rd X.kw call (.sh i)) := pe_nameM h hn fun σ H Q q => by
  obtain ⟨G, e, F, d', e', rep, ev, k⟩ := q
  rw [mev] at ev
  split at ev
  · rename_i c
    cases ev
    obtain ⟨v, ws, q1, q2, q3⟩ := rep.take (whole_ne c)
    obtain ⟨G', s1, s2, r4⟩ := q3.freeze
    have q5 : RV X.kw G' H v (frz (get e i)) [] := q2.freeze s1 s2
    have r6 := Rep.put (ws := []) (i := i) (d := frz (get e i)) (r4.le (F' := plus [] F) fun a => by unfold plus; simp) q1 q5
    rw [List.set_set] at r6
    exact ⟨v, q1, k v H G' [] q5 (r6.le fun a => by unfold plus; simp) s1 (fun _ _ => rfl) trivial⟩
  · cases ev
end
end Mp
namespace Mp
open PySem L2
section
variable {g : Gam} {X : Cx} {call : CallF} {n : Nat}
def PEs (X : Cx) (call : CallF) : List Expr → MEs → Prop
  | [], .nil => True
  | e :: es, .cons a r => PE X e (rd X.kw call a) ∧ PEs X call es r
  | _, _ => False
theorem star_of {e : Expr} {es : List Expr} {env : PySem.Env} (h : notStar e = true) : starEach (e :: es) env = (false, eval e env) :: starEach es env := by
  cases e <;> first
    | rfl
    | cases h
theorem star1_of {e : Expr} {env : PySem.Env} (h : notStar e = true) : starEach [e] env = [(false, eval e env)] := star_of h
theorem pa_ofM : ∀ {es : List Expr} {as : MEs}, PEs X call es as → es.all notStar = true → PA X es (tArgs X.kw call as)
  | [], .nil, _, _ => pa_nil
  | e :: es, .cons a r, h, s => by
    rw [List.all_cons, Bool.and_eq_true] at s
    exact pa_cons h.1 (pa_ofM h.2 s.2) (star_of s.1)
  | [], .cons _ _, h, _ => False.elim h
  | _ :: _, .nil, h, _ => False.elim h
theorem PEs.one {e : Expr} {as : MEs} (h : PEs X call [e] as) : ∃ a, as = .cons a .nil ∧ PE X e (rd X.kw call a) := by
  match as, h with
  | .cons a .nil, h => exact ⟨a, rfl, h.1⟩
  | .cons _ (.cons _ _), h => exact False.elim h.2
theorem PEs.two {e f : Expr} {as : MEs} (h : PEs X call [e, f] as) : ∃ a b, as = .cons a (.cons b .nil) ∧ PE X e (rd X.kw call a) ∧ PE X f (rd X.kw call b) := by
  match as, h with
  | .cons a (.cons b .nil), h => exact ⟨a, b, rfl, h.1, h.2.1⟩
  | .cons _ .nil, h => exact False.elim h.2
  | .cons _ (.cons _ (.cons _ _)), h => exact False.elim h.2.2
theorem PEs.three {e f i : Expr} {as : MEs} (h : PEs X call [e, f, i] as) : ∃ a b c, as = .cons a (.cons b (.cons c .nil)) ∧ PE X e (rd X.kw call a) ∧ PE X f (rd X.kw call b) ∧ PE X i (rd X.kw call c) := by
  match as, h with
  | .cons a (.cons b (.cons c .nil)), h => exact ⟨a, b, c, rfl, h.1, h.2.1, h.2.2.1⟩
  | .cons _ .nil, h => exact False.elim h.2
  | .cons _ (.cons _ .nil), h => exact False.elim h.2.2
  | .cons _ (.cons _ (.cons _ (.cons _ _))), h => exact False.elim h.2.2.2
/-- where no hole is handed in -/
theorem op_coreN {K : KW} {σ : L2.St} {H : Hp} {Q : VK} {o : Op} {as : MEs} {r : RL} (ok : OpOkN K r o) (h : rd K call (.op o as) σ H Q) : tArgs K call as σ H fun vs H1 => r vs H1 Q := by
  obtain ⟨G, e, F, d, e', rep, ev, k⟩ := h
  rw [mev] at ev
  cases ea : mevs call as e with
  | no => rw [ea] at ev; cases ev
  | ok ds e1 =>
    rw [ea, bind_ok] at ev
    cases eo : opV o (fix as ds e1) with
    | none => rw [eo] at ev; cases ev
    | some d1 =>
      rw [eo, of_some] at ev
      cases ev
      obtain ⟨nh, eo⟩ := opV_some eo
      refine args_run as rep ea fun vs H1 G1 w1 rvs rep1 s1 k1 av => ?_
      refine ok vs _ d H1 G1 Q (fix_run rvs av rep1 nh) nh rep1.same eo fun v H2 G2 w2 rv2 f => ?_
      refine k v H2 G2 w2 rv2 ((rep1.le fun a => ?_).eff f) (s1.trans f.sg) (fun a ha => ?_) trivial
      · unfold plus; omega
      · exact (f.keep (rep1.there (plus_pos' ha))).trans (k1 a ha)
theorem pe_cmp2 {o : Op} {op : CmpOp} {r : R2} {a b : Expr} {as : MEs} {pos : Pos} (ho : OpR X (compareOp op) r) (ok : OpOk X.kw (rL2 r) o) (hs : PEs X call [a, b] as) (hm : behindInMarks op b = false) : PE X (.Compare a [op] [b] pos) (rd X.kw call (.op o as)) := by
  obtain ⟨x, y, rfl, h1, h2⟩ := hs.two
  exact pe_op2 ok (pe_cmpR ho h1 h2 hm)
theorem pe_bin2 {o : Op} {op : Operator} {r : R2} {a b : Expr} {as : MEs} {pos : Pos} (ho : OpR X (binaryOp op) r) (ok : OpOk X.kw (rL2 r) o) (hs : PEs X call [a, b] as) : PE X (.BinOp a op b pos) (rd X.kw call (.op o as)) := by
  obtain ⟨x, y, rfl, h1, h2⟩ := hs.two
  exact pe_op2 ok (pe_op ho h1 h2)
theorem plainIx_of {b : Expr} (h : ixB b = true) : PlainIx b := by
  cases b <;> first
    | exact fun _ _ => rfl
    | cases h
theorem Good.blt (h : Good g X call n) {x : Str} (b : bltB g x = true) : Gl X x ∧ X.mg x = none ∧ x ≠ "__name__" ∧ (x == ("__debug__" : Str)) = false := by
  unfold bltB at b
  rw [Bool.and_eq_true, Bool.and_eq_true] at b
  obtain ⟨p1, _, p3⟩ := plainName_ok b.2.2
  exact ⟨h.gl b.1, h.bl x b.2.1, p3, p1⟩
theorem pe_blt1 (h : Good g X call n) {o : Op} {id : String} {r : RL} {x : Str} {p pos : Pos} {a : Expr} {as : MEs} (hc : CallR X (.builtin id) r) (hv : bootBuiltins x = some (.builtin id)) (ok : OpOk X.kw r o) (b : bltB g x = true) (s : notStar a = true) (hs : PEs X call [a] as) :
    PE X (.Call (.Name x p) [a] [] pos) (rd X.kw call (.op o as)) := by
  obtain ⟨b1, b2, b3, b4⟩ := h.blt b
  exact Mp.PE.mono (pe_callB hc b1 b2 hv (pa_ofM hs (by simp [s])) b3 b4 (star_of s) rfl) fun σ H Q q => op_core ok q
theorem pe_blt1T (h : Good g X call n) {o : Op} {id : String} {r : RL} {x : Str} {p pos : Pos} {a : Expr} {as : MEs} (hc : CallR X (.type id) r) (hv : bootBuiltins x = some (.type id)) (ok : OpOk X.kw r o) (b : bltB g x = true) (s : notStar a = true) (hs : PEs X call [a] as) :
    PE X (.Call (.Name x p) [a] [] pos) (rd X.kw call (.op o as)) := by
  obtain ⟨b1, b2, b3, b4⟩ := h.blt b
  exact Mp.PE.mono (pe_callTy hc b1 b2 hv (pa_ofM hs (by simp [s])) b3 b4 (star_of s) rfl) fun σ H Q q => op_core ok q
theorem boot_ty : ∀ k : Nat, k < 6 → bootBuiltins (PySem.Str.ofString (tyS k)) = some (.type (tyS k))
  | 0, _ => by decide +kernel | 1, _ => by decide +kernel | 2, _ => by decide +kernel | 3, _ => by decide +kernel | 4, _ => by decide +kernel | 5, _ => by decide +kernel
  | k + 6, h => absurd h (by omega)
theorem pe_isiM (h : Good g X call n) {k : Nat} {p p2 pos : Pos} {a : Expr} {m : ME} (b : bltB g ("isinstance" : Str) = true) (s : notStar a = true) (hk : k < 6) (ht : bltB g (PySem.Str.ofString (tyS k)) = true) (h1 : PE X a (rd X.kw call m)) :
    PE X (.Call (.Name ("isinstance" : Str) p) [a, .Name (PySem.Str.ofString (tyS k)) p2] [] pos) (rd X.kw call (.op (.isi k) (.cons m .nil))) := by
  obtain ⟨b1, b2, b3, b4⟩ := h.blt b
  obtain ⟨t1, t2, t3, t4⟩ := h.blt ht
  have ha : PA X [a, .Name (PySem.Str.ofString (tyS k)) p2] (tCons (rd X.kw call m) (tCons (tC (.ty (tyS k))) tNil)) := pa_cons h1 (pa_cons (pe_bltn t1 t2 (boot_ty k hk) rfl t3 t4) pa_nil) (star_of s)
  exact Mp.PE.mono (pe_callB call_isi b1 b2 (by decide +kernel) ha b3 b4 (star_of s) rfl) fun σ H Q q => op_core (okx_isi (k := k)) q
/-- sorted(set(..)) -/
theorem pe_ssetM (h : Good g X call n) {p p2 pos pos2 : Pos} {a : Expr} {as : MEs} (b1 : bltB g ("sorted" : Str) = true) (b2 : bltB g ("set" : Str) = true) (s : notStar a = true) (hs : PEs X call [a] as) :
    PE X (.Call (.Name ("sorted" : Str) p) [.Call (.Name ("set" : Str) p2) [a] [] pos2] [] pos) (rd X.kw call (.op .sset as)) := by
  obtain ⟨c1, c2, c3, c4⟩ := h.blt b1
  obtain ⟨d1, d2, d3, d4⟩ := h.blt b2
  have inner := pe_callTy (pos := pos2) (p := p2) (cr_setTx (X := X) h.calm) d1 d2 (by decide +kernel) (pa_ofM hs (by simp [s])) d3 d4 (star_of s) rfl
  have outer := pe_callB (pos := pos) (p := p) (cr_sortTx (X := X) h.calm) c1 c2 (by decide +kernel) (pa_cons inner pa_nil) c3 c4 rfl rfl
  refine Mp.PE.mono outer fun σ H Q q => ?_
  have z := op_core (o := .sset) (okx_sset (P := X.prog) (w := X.w)) q
  exact z
/-! ### displays -/
theorem RVs.eff {K : KW} {G H G' H' : Hp} {vs : List V} {ds : List D} {w w' : List Addr} (r : RVs K G H vs ds w) (f : Eff H G H' G' w') (h : ∀ a ∈ w, H a ≠ none) : RVs K G' H' vs ds w := r.move f.sg fun a ha => f.keep (h a ha)
theorem dsp_core {K : KW} {σ : L2.St} {H : Hp} {Q : VK} {t : Bool} {as : MEs} (h : rd K call (.dsp t as) σ H Q) : tArgs K call as σ H fun vs H1 => vs.length ≤ sizeLine ∧ ∀ p, H1 p = none → Q (.ref p) (upd H1 p (if t then .tup vs else .lst vs)) := by
  obtain ⟨G, e, F, d, e', rep, ev, k⟩ := h
  rw [mev] at ev
  cases ea : mevs call as e with
  | no => rw [ea] at ev; cases ev
  | ok ds e1 =>
    rw [ea, bind_ok] at ev
    split at ev
    · rename_i hc
      cases ev
      simp only [Bool.and_eq_true, decide_eq_true_eq] at hc
      refine args_run as rep ea fun vs H1 G1 w1 rvs rep1 s1 k1 av => ?_
      refine ⟨by rw [rvs.length, ← big_eq]; exact hc.2, fun p hp => ?_⟩
      have hw : ∀ a ∈ w1, H1 a ≠ none := fun a ha => rep1.there (plus_pos ha)
      cases t with
      | true =>
        have f := Eff.lay rep1.same hp (.tup vs)
        refine k (.ref p) _ _ w1 (.tup (.of upd_same) (rvs.eff f hw)) ((rep1.eff f).le fun a => ?_) (s1.trans f.sg) (fun a ha => (f.keep (rep1.there (plus_pos' ha))).trans (k1 a ha)) trivial
        unfold plus; simp
      | false =>
        have f := Eff.layO rep1.same hp (.lst vs)
        refine k (.ref p) _ _ (p :: w1) (.own upd_same (rvs.eff f hw)) ((rep1.eff f).le fun a => ?_) (s1.trans f.sg) (fun a ha => (f.keep (rep1.there (plus_pos' ha))).trans (k1 a ha)) trivial
        unfold plus
        rw [List.count_cons, List.count_singleton]
        omega
    · cases ev
theorem pe_dspT (hs : PEs X call es as) (s : es.all notStar = true) {k : Nat} {pos : Pos} : PE X (.Tuple es k pos) (rd X.kw call (.dsp true as)) := Mp.PE.mono (pe_tup (pa_ofM hs s)) fun σ H Q q => dsp_core q
theorem pe_dspL (hs : PEs X call es as) (s : es.all notStar = true) {pos : Pos} : PE X (.List es pos) (rd X.kw call (.dsp false as)) := Mp.PE.mono (pe_lst (pa_ofM hs s)) fun σ H Q q => dsp_core q
/-- readings weaken -/
theorem rd_imp {K : KW} {m : ME} {σ : L2.St} {H : Hp} {Q Q' : VK} (h : rd K call m σ H Q) (k : ∀ v H, Q v H → Q' v H) : rd K call m σ H Q' := by
  obtain ⟨G, e, F, d, e', rep, ev, q⟩ := h
  exact ⟨G, e, F, d, e', rep, ev, fun v H' G' ws a b c d f => k _ _ (q v H' G' ws a b c d f)⟩
section
variable {K : KW} {σ : L2.St} {H : Hp} {Q : VK} {a b c : ME}
theorem fix_ne {m : ME} {r : MEs} {d : D} {ds : List D} {e : Env} (h : isBw m = false) : fix (.cons m r) (d :: ds) e = d :: fix r ds e := by
  cases m <;> first
    | rfl
    | cases h
theorem op_fin {G H1 G1 : Hp} {e1 : Env} {F : Fm} {o : Op} {as : MEs} {r : RL} {vs : List V} {ds : List D} {w1 : List Addr} {d : D} (ok : OpOk K r o) (rvs : RVs K G1 H1 vs ds w1) (rep1 : Rep K σ H1 G1 e1 (plus w1 F)) (s1 : Same G G1)
    (k1 : ∀ a, 0 < F a → H1 a = H a) (av : AVs as σ vs) (eo : opV o (fix as ds e1) = some d)
    (k : ∀ v H' G' ws, RV K G' H' v d ws → Rep K σ H' G' e1 (plus ws F) → Same G G' → (∀ a, 0 < F a → H' a = H a) → Q v H') : r vs H1 Q := by
  obtain ⟨nh, eo⟩ := opV_some eo
  refine ok vs _ d H1 G1 Q (fix_run rvs av rep1 nh) rep1.same eo fun v H2 G2 w2 rv2 f => ?_
  refine k v H2 G2 w2 rv2 ((rep1.le fun a => ?_).eff f) (s1.trans f.sg) (fun a ha => ?_)
  · unfold plus; omega
  · exact (f.keep (rep1.there (plus_pos' ha))).trans (k1 a ha)
theorem plus2 (r : Rep K σ H G e (plus w2 (plus w1 F))) : Rep K σ H G e (plus (w1 ++ w2) F) := r.le fun a => by
  unfold plus
  rw [List.count_append]
  omega
theorem join_step (hb : isBw a = false) (h : rd K call (.op .join (.cons a (.cons b .nil))) σ H Q) :
    tM1 (fun x xs H Q => ∃ a p, ∃ ys : List Str, x = .str a ∧ xs = [.ref p] ∧ (SqL K.K H p (ys.map V.str) ∨ SqT K.K H p (ys.map V.str)) ∧ (ys.map (·.length)).sum + ys.length * a.length ≤ 16777216 ∧ Q (.str (Txt.join a ys)) H) (rd K call a) (rd K call b) σ H Q := by
  obtain ⟨G, e, F, d, e', rep, ev, k⟩ := h
  rw [mev, mevs] at ev
  cases ea : mev call a e with
  | no => rw [ea] at ev; cases ev
  | ok da e1 =>
    rw [ea, bind_ok, mevs] at ev
    cases eb : mev call b e1 with
    | no => rw [eb] at ev; cases ev
    | ok db e2 =>
      rw [eb, bind_ok, mevs, bind_ok, bind_ok, bind_ok] at ev
      cases eo : opV .join (fix (.cons a (.cons b .nil)) [da, db] e2) with
      | none => rw [eo] at ev; cases ev
      | some d1 =>
        rw [eo, of_some] at ev
        cases ev
        have eo2 := (opV_some eo).2
        rw [fix_ne hb] at eo2
        obtain ⟨x, y, exy, hf⟩ := sem2_some (show sem2 semJoin (da :: fix (.cons b .nil) [db] e') = some d from eo2)
        have hx : da = x := by injection exy
        have hs : ∃ s, da = .str s := by
          rw [hx]
          unfold semJoin at hf
          split at hf
          · exact ⟨_, rfl⟩
          · cases hf
        obtain ⟨s, rfl⟩ := hs
        refine ⟨G, e, F, _, e1, rep, ea, fun v1 H1 G1 w1 rv1 rep1 s1 k1 av1 => ⟨⟨_, rv1.str_inv⟩, G1, e1, plus w1 F, db, e', rep1, eb, fun v2 H2 G2 w2 rv2 rep2 s2 k2 av2 => ?_⟩⟩
        have z := op_fin (as := .cons a (.cons b .nil)) okx_join (.cons (rv1.move s2 fun a ha => k2 a (plus_pos ha)) (.cons rv2 .nil)) (by rw [List.append_nil]; exact plus2 rep2) (s1.trans s2) (fun a ha => (k2 a (plus_pos' ha)).trans (k1 a ha)) ⟨av1, av2, trivial⟩ eo fun v H' G' ws p1 p2 p3 p4 => k v H' G' ws p1 p2 p3 p4 trivial
        obtain ⟨_, a', p, ys, e3, e4, q1, q2, q3⟩ := z
        exact ⟨a', p, ys, e3, by rw [e4], q1, q2, q3⟩
theorem sl_step3 (hb : isBw b = false) (h : rd K call (.op (.sl true true) (.cons a (.cons b (.cons c .nil)))) σ H Q) : tSl (rSlA K.K) (rd K call a) (tPart (rd K call b)) (tPart (rd K call c)) σ H Q := by
  obtain ⟨G, e, F, d, e', rep, ev, k⟩ := h
  rw [mev, mevs] at ev
  cases ea : mev call a e with
  | no => rw [ea] at ev; cases ev
  | ok da e1 =>
    rw [ea, bind_ok, mevs] at ev
    cases eb : mev call b e1 with
    | no => rw [eb] at ev; cases ev
    | ok db e2 =>
      rw [eb, bind_ok, mevs] at ev
      cases ec : mev call c e2 with
      | no => rw [ec] at ev; cases ev
      | ok dc e3 =>
        rw [ec, bind_ok, mevs, bind_ok, bind_ok, bind_ok, bind_ok] at ev
        cases eo : opV (.sl true true) (fix (.cons a (.cons b (.cons c .nil))) [da, db, dc] e3) with
        | none => rw [eo] at ev; cases ev
        | some d1 =>
          rw [eo, of_some] at ev
          cases ev
          have eo2 := (opV_some eo).2
          have hs : ∃ i, db = .int i := by
            have fx : ∃ x z, fix (.cons a (.cons b (.cons c .nil))) [da, db, dc] e' = [x, db, z] := by
              have f2 : ∃ z, fix (.cons b (.cons c .nil)) [db, dc] e' = [db, z] := by
                rw [fix_ne hb]
                cases c <;> exact ⟨_, rfl⟩
              obtain ⟨z, f2⟩ := f2
              cases a <;> exact ⟨_, z, congrArg (_ :: ·) f2⟩
            obtain ⟨x, z, fx⟩ := fx
            rw [fx] at eo2
            obtain ⟨p, e5, _⟩ := Option.bind_eq_some_iff.mp (show (partsD true true [db, z]).bind (fun p => cutD x p.1 p.2) = some d from eo2)
            obtain ⟨o, e6, _⟩ := Option.bind_eq_some_iff.mp (show (partD db).bind (fun i => (partD z).bind fun j => if true && true then some (i, j) else none) = some p from e5)
            obtain ⟨i, e7, _⟩ := partD_some e6
            exact ⟨i, e7⟩
          obtain ⟨i, rfl⟩ := hs
          refine ⟨G, e, F, _, e1, rep, ea, fun v1 H1 G1 w1 rv1 rep1 s1 k1 av1 => ⟨G1, e1, plus w1 F, _, e2, rep1, eb, fun v2 H2 G2 w2 rv2 rep2 s2 k2 av2 => ⟨i, rv2.int_inv, ?_⟩⟩⟩
          refine ⟨G2, e2, plus w2 (plus w1 F), _, e', rep2, ec, fun v3 H3 G3 w3 rv3 rep3 s3 k3 av3 => ?_⟩
          have z := op_fin (as := .cons a (.cons b (.cons c .nil))) (okx_sl true true)
            (.cons (rv1.move (s2.trans s3) fun a ha => (k3 a (plus_pos' (plus_pos ha))).trans (k2 a (plus_pos ha))) (.cons (rv2.move s3 fun a ha => k3 a (plus_pos ha)) (.cons rv3 .nil)))
            (rep3.le fun a => by unfold plus; rw [List.count_append, List.count_append, List.append_nil]; omega) ((s1.trans s2).trans s3) (fun a ha => ((k3 a (plus_pos' (plus_pos' ha))).trans (k2 a (plus_pos' ha))).trans (k1 a ha)) ⟨av1, av2, av3, trivial⟩ eo fun v H' G' ws p1 p2 p3 p4 => k v H' G' ws p1 p2 p3 p4 trivial
          obtain ⟨_, _, i', j, e8, e9, z⟩ := z
          rw [rv2.int_inv] at e8
          cases e8
          exact ⟨j, e9, z⟩
theorem sl_step0 (h : tArgs K call (.cons a .nil) σ H fun vs H1 => rSlV K.K false false vs H1 Q) : tSl (rSlA K.K) (rd K call a) tNoPart tNoPart σ H Q := by
  refine rd_imp (m := a) h fun v H1 q => ?_
  obtain ⟨_, _, q⟩ := q
  exact q
theorem sl_step1 (h : tArgs K call (.cons a (.cons b .nil)) σ H fun vs H1 => rSlV K.K true false vs H1 Q) : tSl (rSlA K.K) (rd K call a) (tPart (rd K call b)) tNoPart σ H Q := by
  refine rd_imp (m := a) h fun v H1 q => ?_
  refine rd_imp (m := b) q fun v2 H2 q => ?_
  rcases q with ⟨_, _, i, e, q⟩ | ⟨z, _⟩
  · exact ⟨i, e, q⟩
  · cases z
theorem sl_step2 (h : tArgs K call (.cons a (.cons b .nil)) σ H fun vs H1 => rSlV K.K false true vs H1 Q) : tSl (rSlA K.K) (rd K call a) tNoPart (tPart (rd K call b)) σ H Q := by
  refine rd_imp (m := a) h fun v H1 q => ?_
  refine rd_imp (m := b) q fun v2 H2 q => ?_
  rcases q with ⟨z, _⟩ | ⟨_, _, i, e, q⟩
  · cases z
  · exact ⟨i, e, q⟩
end
/-! ### all operators -/
theorem pe_opM (h : Good g X call n) {o : Op} {e : Expr} {es : List Expr} {as : MEs} (ho : opArgs g o e = some es) (hst : strictB o as = true) (hs : PEs X call es as) : PE X e (rd X.kw call (.op o as)) := by
  unfold opArgs at ho
  split at ho
  case h_1 =>
    split at ho
    · cases ho; exact pe_bin2 op_addA okx_add hs
    · cases ho
  case h_2 =>
    split at ho
    · cases ho; exact pe_bin2 op_sub okx_sub hs
    · cases ho
  case h_3 =>
    split at ho
    · cases ho; exact pe_bin2 (op_mulA.or op_mulS) okx_mul hs
    · cases ho
  case h_4 =>
    split at ho
    · cases ho; exact pe_bin2 op_fdivW okx_div hs
    · cases ho
  case h_5 =>
    split at ho
    · cases ho; exact pe_bin2 op_mod okx_mod hs
    · cases ho
  case h_6 =>
    split at ho
    · cases ho; exact pe_bin2 op_pow okx_pow hs
    · cases ho
  case h_7 =>
    split at ho
    · cases ho; exact pe_cmp2 (op_eqA h.u) okx_eq hs (nomark _)
    · cases ho
  case h_8 =>
    split at ho
    · cases ho; exact pe_cmp2 (op_neA h.u) okx_ne hs (nomark _)
    · cases ho
  case h_9 =>
    split at ho
    · cases ho; exact pe_cmp2 (op_ltA h.u) (okx_cmp rfl) hs (nomark _)
    · cases ho
  case h_10 =>
    split at ho
    · cases ho; exact pe_cmp2 (op_leA h.u) (okx_cmp rfl) hs (nomark _)
    · cases ho
  case h_11 =>
    split at ho
    · cases ho; exact pe_cmp2 (op_gtA h.u) (okx_cmp rfl) hs (nomark _)
    · cases ho
  case h_12 =>
    split at ho
    · cases ho; exact pe_cmp2 (op_geA h.u) (okx_cmp rfl) hs (nomark _)
    · cases ho
  case h_13 =>
    split at ho
    · split at ho
      · cases ho
      · rename_i hb
        cases ho
        exact pe_cmp2 (op_inA h.u) okx_in hs (by simpa using hb)
    · cases ho
  case h_14 =>
    split at ho
    · split at ho
      · cases ho
      · rename_i hb
        cases ho
        exact pe_cmp2 (op_notInA h.u) okx_notin hs (by simpa using hb)
    · cases ho
  case h_15 =>
    split at ho
    · cases ho
      obtain ⟨a, rfl, h1⟩ := hs.one
      exact Mp.PE.mono (pe_cmp (pc_isN h1)) fun σ H Q q => op_coreN okx_isN q
    · cases ho
  case h_16 =>
    split at ho
    · cases ho
      obtain ⟨a, rfl, h1⟩ := hs.one
      exact Mp.PE.mono (pe_cmp (pc_notN h1)) fun σ H Q q => op_coreN okx_notN q
    · cases ho
  case h_17 =>
    split at ho
    · split at ho
      · rename_i hb
        cases ho
        obtain ⟨a, b, rfl, h1, h2⟩ := hs.two
        exact pe_op2 okx_ix (pe_ix (ix_A h.u) h1 h2 (plainIx_of hb))
      · cases ho
    · cases ho
  case h_18 =>
    split at ho
    · cases ho
      obtain ⟨a, rfl, h1⟩ := hs.one
      exact Mp.PE.mono (pe_revS h1) fun σ H Q q => op_core okx_rev q
    · cases ho
  case h_19 =>
    split at ho
    · split at ho
      · rename_i hb
        cases ho
        simp only [Bool.and_eq_true, beq_iff_eq] at hb
        obtain ⟨⟨rfl, hb⟩, hc⟩ := hb
        exact pe_blt1 h (call_len_str.or call_len_seq) (by decide +kernel) okx_len hb hc hs
      · cases ho
    · cases ho
  case h_20 =>
    split at ho
    · split at ho
      · rename_i hb
        cases ho
        simp only [Bool.and_eq_true, beq_iff_eq] at hb
        obtain ⟨⟨rfl, hb⟩, hc⟩ := hb
        exact pe_blt1 h (cr_sortedA h.calm) (by decide +kernel) okx_sorted hb hc hs
      · cases ho
    · cases ho
  case h_21 =>
    split at ho
    · split at ho
      · rename_i hb
        cases ho
        simp only [Bool.and_eq_true, beq_iff_eq] at hb
        obtain ⟨⟨rfl, hb⟩, hc⟩ := hb
        exact pe_blt1T h call_tuple_of (by decide +kernel) okx_tuple hb hc hs
      · cases ho
    · cases ho
  case h_22 =>
    split at ho
    · split at ho
      · rename_i hb
        cases ho
        simp only [Bool.and_eq_true, beq_iff_eq] at hb
        obtain ⟨⟨rfl, hb⟩, hc⟩ := hb
        exact pe_blt1T h call_list_of (by decide +kernel) okx_list hb hc hs
      · cases ho
    · cases ho
  case h_23 =>
    split at ho
    · split at ho
      · rename_i hb
        cases ho
        simp only [Bool.and_eq_true, beq_iff_eq] at hb
        obtain ⟨⟨rfl, hb⟩, hc⟩ := hb
        exact pe_blt1 h (cr_all h.calm) (by decide +kernel) okx_all hb hc hs
      · cases ho
    · cases ho
  case h_24 =>
    split at ho
    · split at ho
      · rename_i hb
        cases ho
        simp only [Bool.and_eq_true, beq_iff_eq] at hb
        obtain ⟨⟨rfl, hb⟩, hc⟩ := hb
        exact pe_blt1 h (cr_any h.calm) (by decide +kernel) okx_any hb hc hs
      · cases ho
    · cases ho
  case h_25 =>
    split at ho
    · split at ho
      · rename_i hb
        cases ho
        simp only [Bool.and_eq_true, beq_iff_eq] at hb
        obtain ⟨⟨⟨rfl, hl⟩, hc⟩, hp⟩ := hb
        obtain ⟨a, b, rfl, h1, h2⟩ := hs.two
        refine Mp.PE.mono (pe_join h1 h2 (star1_of hc) ?_ (by simpa using hp)) fun σ H Q q => ?_
        · unfold litB at hl
          split at hl
          · rfl
          · cases hl
        · exact join_step (by simpa [strictB] using hst) q
      · cases ho
    · cases ho
  case h_26 =>
    split at ho
    · split at ho
      · rename_i hb
        cases ho
        simp only [Bool.and_eq_true, beq_iff_eq, decide_eq_true_eq] at hb
        obtain ⟨rfl, hb, hc, hk, rfl, ht⟩ := hb
        obtain ⟨a, rfl, h1⟩ := hs.one
        exact pe_isiM h hb hc hk ht h1
      · cases ho
    · cases ho
  case h_27 =>
    split at ho
    · split at ho
      · rename_i hb
        cases ho
        simp only [Bool.and_eq_true, beq_iff_eq] at hb
        obtain ⟨⟨rfl, hb⟩, hc⟩ := hb
        exact pe_blt1T h call_int1 (by decide +kernel) okx_toInt hb hc hs
      · cases ho
    · cases ho
  case h_28 =>
    split at ho
    · split at ho
      · rename_i hb
        cases ho
        simp only [Bool.and_eq_true, beq_iff_eq, decide_eq_true_eq, Bool.not_eq_true'] at hb
        obtain ⟨rfl, rfl, rfl, rfl, hyz, hl⟩ := hb
        obtain ⟨a, rfl, h1⟩ := hs.one
        exact Mp.PE.mono (pe_replIx h.u h1 hyz (by simpa using hl)) fun σ H Q q => op_core okx_repl q
      · cases ho
    · cases ho
  case h_29 =>
    split at ho
    · split at ho
      · rename_i hb
        cases ho
        simp only [Bool.and_eq_true, beq_iff_eq] at hb
        obtain ⟨rfl, b1, rfl, b2, b3⟩ := hb
        exact pe_ssetM h b1 b2 b3 hs
      · cases ho
    · cases ho
  case h_30 =>
    split at ho
    · cases ho
      obtain ⟨a, rfl, h1⟩ := hs.one
      refine Mp.PE.mono (pe_slice sl_A h1 po_none po_none) fun σ H Q q => ?_
      exact sl_step0 (op_core (okx_sl false false) q)
    · cases ho
      obtain ⟨a, b, rfl, h1, h2⟩ := hs.two
      refine Mp.PE.mono (pe_slice sl_A h1 (po_some h2) po_none) fun σ H Q q => ?_
      exact sl_step1 (op_core (okx_sl true false) q)
    · cases ho
      obtain ⟨a, b, rfl, h1, h2⟩ := hs.two
      refine Mp.PE.mono (pe_slice sl_A h1 po_none (po_some h2)) fun σ H Q q => ?_
      exact sl_step2 (op_core (okx_sl false true) q)
    · cases ho
      obtain ⟨a, b, d, rfl, h1, h2, h3⟩ := hs.three
      refine Mp.PE.mono (pe_slice sl_A h1 (po_some h2) (po_some h3)) fun σ H Q q => ?_
      exact sl_step3 (by simpa [strictB] using hst) q
    · cases ho
end
end Mp
namespace Mp
open PySem L2
section
variable {g : Gam} {X : Cx} {call : CallF} {n : Nat}
section
variable {K : KW} {σ : L2.St} {H : Hp}
/-- after a first part -/
theorem rd_bind {a : ME} {σ : L2.St} {H G : Hp} {e : Env} {F : Fm} {d : D} {e1 : Env} {Q : VK} (rep : Rep K σ H G e F) (ea : mev call a e = .ok d e1)
    (k : ∀ v H1 G1 ws, RV K G1 H1 v d ws → Rep K σ H1 G1 e1 (plus ws F) → Same G G1 → (∀ a, 0 < F a → H1 a = H a) → AV a σ v → Q v H1) : rd K call a σ H Q := ⟨G, e, F, d, e1, rep, ea, k⟩
theorem Rep.drop {G : Hp} {e : Env} {F : Fm} {ws : List Addr} (r : Rep K σ H G e (plus ws F)) : Rep K σ H G e F := r.le fun a => by unfold plus; omega
/-- a test by its value -/
theorem rdT_of {m : ME} {Q : Bool → Hp → Prop} (h : rdT K call m σ H Q) : ∃ G e F d k e', Rep K σ H G e F ∧ mev call m e = .ok d e' ∧ truth d = some k ∧
    ∀ H' G', Rep K σ H' G' e' F → Same G G' → (∀ a, 0 < F a → H' a = H a) → Q k H' := by
  obtain ⟨G, e, F, k, e', rep, ev, q⟩ := h
  unfold truthR at ev
  cases ea : mev call m e with
  | no => rw [ea] at ev; cases ev
  | ok d e1 =>
    rw [ea, bind_ok] at ev
    cases et : truth d with
    | none => rw [et] at ev; cases ev
    | some k' =>
      rw [et, of_some] at ev
      cases ev
      exact ⟨G, e, F, d, k, _, rep, ea, et, q⟩
theorem truthR_ok {m : ME} {e e' : Env} {d : D} {k : Bool} (h : mev call m e = .ok d e') (t : truth d = some k) : truthR (mev call m e) = .ok k e' := by
  unfold truthR
  rw [h, bind_ok, t, of_some]
theorem truthR_inv {m : ME} {e e' : Env} {k : Bool} (h : truthR (mev call m e) = .ok k e') : ∃ d, mev call m e = .ok d e' ∧ truth d = some k := by
  unfold truthR at h
  cases ea : mev call m e with
  | no => rw [ea] at h; cases h
  | ok d e1 =>
    rw [ea, bind_ok] at h
    cases et : truth d with
    | none => rw [et] at h; cases h
    | some k' =>
      rw [et, of_some] at h
      cases h
      exact ⟨d, rfl, et⟩
/-- a test whose value is a truth -/
theorem rdT_bl {m : ME} {Q : Bool → Hp → Prop} (h : rdT K call m σ H Q) (hb : ∀ e d e', mev call m e = .ok d e' → ∃ k, d = .bl k) : rd K call m σ H fun x H' => ∃ k, x = .bl k ∧ Q k H' := by
  obtain ⟨G, e, F, d, k, e', rep, ev, t, q⟩ := rdT_of h
  obtain ⟨k', rfl⟩ := hb e d e' ev
  cases t
  exact rd_bind rep ev fun v H1 G1 ws rv rep1 s1 k1 _ => ⟨k, rv.bl_inv, q H1 G1 rep1.drop s1 k1⟩
/-- a test by truth -/
theorem tru_V {G : Hp} (sg : Same G H) {v : V} {d : D} {ws : List Addr} {k : Bool} (rv : RV K G H v d ws) (t : truth d = some k) : TruV K.K v H k := by
  unfold truth at t
  split at t
  · cases t; rw [rv.non_inv]; rfl
  · cases t; rw [rv.bl_inv]; rfl
  · cases t; rw [rv.int_inv]; rfl
  · split at t
    · rename_i hl
      cases t
      rw [rv.str_inv]
      show (⟨_⟩ : Str).length ≤ sizeLine ∧ _
      rw [size_str, ← big_eq]
      refine ⟨hl, ?_⟩
      rw [Bool.eq_iff_iff]
      simp
    · cases t
  · cases t
    obtain ⟨a, vs, rfl, s, ws, r⟩ := rv.lst_inv sg
    have hl := r.length
    refine .inl ⟨vs, s, ?_⟩
    cases vs <;> cases ‹List D› <;> first
      | rfl
      | simp at hl
  · cases t
    obtain ⟨a, vs, rfl, _, s, ws, r⟩ := rv.tup_inv sg
    have hl := r.length
    refine .inr (.inl ⟨vs, s, ?_⟩)
    cases vs <;> cases ‹List D› <;> first
      | rfl
      | simp at hl
  · cases t
end
theorem cmp_rule (h : Good g X call n) {o : Op} {op : CmpOp} (e : cmpOp o = some op) : ∃ r, OpR X (compareOp op) r ∧ OpOk X.kw (rL2 r) o ∧ op ≠ .In ∧ op ≠ .NotIn ∧ ∀ ds d, opSem o ds = some d → ∃ k, d = .bl k := by
  have bl : ∀ {f : D → D → Option Bool} {k : Bool → Bool} {ds : List D} {d : D}, sem2 (fun a b => (f a b).map fun r => D.bl (k r)) ds = some d → ∃ k, d = .bl k := fun {f k ds d} h => by
    obtain ⟨a, b, _, hf⟩ := sem2_some h
    obtain ⟨r, _, e⟩ := Option.map_eq_some_iff.mp hf
    exact ⟨_, e.symm⟩
  have bc : ∀ {p : Int → Int → Bool} {f : Bool → Bool → Bool} {ds : List D} {d : D}, sem2 (semCmp p f) ds = some d → ∃ k, d = .bl k := fun {p f ds d} h => by
    obtain ⟨a, b, _, hf⟩ := sem2_some h
    unfold semCmp at hf
    split at hf
    · cases hf; exact ⟨_, rfl⟩
    · cases hf; exact ⟨_, rfl⟩
    · cases hf; exact ⟨_, rfl⟩
    · cases hf
  cases o <;> cases e
  · exact ⟨_, op_eqA h.u, okx_eq, by decide, by decide, fun ds d q => bl (f := eqD) (k := fun r => r) q⟩
  · exact ⟨_, op_neA h.u, okx_ne, by decide, by decide, fun ds d q => bl (f := eqD) (k := fun r => !r) q⟩
  · exact ⟨_, op_ltA h.u, okx_cmp rfl, by decide, by decide, fun ds d q => bc q⟩
  · exact ⟨_, op_leA h.u, okx_cmp rfl, by decide, by decide, fun ds d q => bc q⟩
  · exact ⟨_, op_gtA h.u, okx_cmp rfl, by decide, by decide, fun ds d q => bc q⟩
  · exact ⟨_, op_geA h.u, okx_cmp rfl, by decide, by decide, fun ds d q => bc q⟩
theorem opV2 {o : Op} {r : R2} {K : KW} (ok : OpOk K (rL2 r) o) {G H : Hp} {a b d : D} {v u : V} {w1 w2 : List Addr} {Q : VK} (h1 : RV K G H v a w1) (h2 : RV K G H u b w2) (sg : Same G H) (e : opV o [a, b] = some d) (k : Cont K H G d Q) : r v u H Q :=
  ok [v, u] [a, b] d H G Q (.cons h1 (.cons h2 .nil)) sg (opV_some e).2 k
theorem chain_core {K : KW} {σ : L2.St} {H : Hp} {Q : VK} {o o' : Op} {a b c : ME} {r r' : R2} (ok : OpOk K (rL2 r) o) (ok' : OpOk K (rL2 r') o') (h : rd K call (.chain o o' a b c) σ H Q) : tChain r r' (rd K call a) (rd K call b) (rd K call c) σ H Q := by
  obtain ⟨G, e, F, d, e', rep, ev, k⟩ := h
  rw [mev] at ev
  cases ea : mev call a e with
  | no => rw [ea] at ev; cases ev
  | ok x e1 =>
    rw [ea, bind_ok] at ev
    cases eb : mev call b e1 with
    | no => rw [eb] at ev; cases ev
    | ok y e2 =>
      rw [eb, bind_ok] at ev
      refine rd_bind rep ea fun v1 H1 G1 w1 rv1 rep1 s1 k1 _ => rd_bind rep1 eb fun v2 H2 G2 w2 rv2 rep2 s2 k2 _ => ?_
      have rv1' := rv1.move s2 fun a ha => k2 a (plus_pos ha)
      split at ev
      · rename_i eo
        refine opV2 ok rv1' rv2 rep2.same eo fun v3 H3 G3 w3 rv3 f => ⟨true, rv3.bl_inv, ?_⟩
        rw [if_pos rfl]
        cases ec : mev call c e2 with
        | no => rw [ec] at ev; cases ev
        | ok z e3 =>
          rw [ec, bind_ok] at ev
          cases eo2 : opV o' [y, z] with
          | none => rw [eo2] at ev; cases ev
          | some d2 =>
            rw [eo2, of_some] at ev
            cases ev
            have rep3 := rep2.eff f
            refine rd_bind rep3 ec fun v4 H4 G4 w4 rv4 rep4 s4 k4 _ => ?_
            have rv2' : RV K G4 H4 v2 y w2 := (rv2.eff f fun a ha => rep2.there (plus_pos ha)).move s4 fun a ha => k4 a (plus_pos' (plus_pos ha))
            refine opV2 ok' rv2' rv4 rep4.same eo2 fun v5 H5 G5 w5 rv5 f5 => ?_
            refine k v5 H5 G5 w5 rv5 ((rep4.le fun a => ?_).eff f5) (((s1.trans s2).trans (f.sg.trans s4)).trans f5.sg) (fun a ha => ?_) trivial
            · unfold plus; omega
            · have t1 := plus_pos' (ws := w2) (plus_pos' (ws := w1) ha)
              have t2 := plus_pos' (ws := w3) t1
              exact (f5.keep (rep4.there (plus_pos' t2))).trans ((k4 a t2).trans ((f.keep (rep2.there t1)).trans ((k2 a (plus_pos' ha)).trans (k1 a ha))))
      · rename_i eo
        cases ev
        refine opV2 ok rv1' rv2 rep2.same eo fun v3 H3 G3 w3 rv3 f => ⟨false, rv3.bl_inv, ?_⟩
        rw [if_neg Bool.false_ne_true]
        refine k (.bl false) H3 G3 [] (.bl _) ((rep2.eff f).le fun a => ?_) ((s1.trans s2).trans f.sg) (fun a ha => ?_) trivial
        · unfold plus; simp; omega
        · have t1 := plus_pos' (ws := w2) (plus_pos' (ws := w1) ha)
          exact (f.keep (rep2.there t1)).trans ((k2 a (plus_pos' ha)).trans (k1 a ha))
      · cases ev
theorem lastMarks_of {op op' : CmpOp} {b c : Expr} (h : op' ≠ .In) (h2 : op' ≠ .NotIn) : lastMarks [op, op'] [b, c] = false := nobehind c h h2
theorem and_core {K : KW} {σ : L2.St} {H : Hp} {Q : VK} {a b : ME} (h : rd K call (.and a b) σ H Q) : tAndV (rd K call a) (rd K call b) σ H Q := by
  obtain ⟨G, e, F, d, e', rep, ev, k⟩ := h
  rw [mev] at ev
  cases ea : mev call a e with
  | no => rw [ea] at ev; cases ev
  | ok x e1 =>
    rw [ea, bind_ok] at ev
    refine rd_bind rep ea fun v1 H1 G1 w1 rv1 rep1 s1 k1 _ => ?_
    split at ev
    · refine ⟨true, rv1.bl_inv, ?_⟩
      rw [if_pos rfl]
      exact rd_bind rep1.drop ev fun v2 H2 G2 w2 rv2 rep2 s2 k2 _ => k v2 H2 G2 w2 rv2 rep2 (s1.trans s2) (fun a ha => (k2 a ha).trans (k1 a ha)) trivial
    · cases ev
      refine ⟨false, rv1.bl_inv, ?_⟩
      rw [if_neg Bool.false_ne_true]
      exact k (.bl false) H1 G1 w1 (by cases rv1; exact .bl _) rep1 s1 k1 trivial
    · cases ev
theorem or_core {K : KW} {σ : L2.St} {H : Hp} {Q : VK} {a b : ME} (h : rd K call (.or a b) σ H Q) : tOrV (rd K call a) (rd K call b) σ H Q := by
  obtain ⟨G, e, F, d, e', rep, ev, k⟩ := h
  rw [mev] at ev
  cases ea : mev call a e with
  | no => rw [ea] at ev; cases ev
  | ok x e1 =>
    rw [ea, bind_ok] at ev
    refine rd_bind rep ea fun v1 H1 G1 w1 rv1 rep1 s1 k1 _ => ?_
    split at ev
    · cases ev
      refine ⟨true, rv1.bl_inv, ?_⟩
      rw [if_pos rfl]
      exact k (.bl true) H1 G1 w1 (by cases rv1; exact .bl _) rep1 s1 k1 trivial
    · refine ⟨false, rv1.bl_inv, ?_⟩
      rw [if_neg Bool.false_ne_true]
      exact rd_bind rep1.drop ev fun v2 H2 G2 w2 rv2 rep2 s2 k2 _ => k v2 H2 G2 w2 rv2 rep2 (s1.trans s2) (fun a ha => (k2 a ha).trans (k1 a ha)) trivial
    · cases ev
theorem orT_core {K : KW} {σ : L2.St} {H : Hp} {Q : VK} {a b : ME} (h : rd K call (.orT a b) σ H Q) : tOrT K.K (rd K call a) (rd K call b) σ H Q := by
  obtain ⟨G, e, F, d, e', rep, ev, k⟩ := h
  rw [mev] at ev
  cases ea : mev call a e with
  | no => rw [ea] at ev; cases ev
  | ok x e1 =>
    rw [ea, bind_ok] at ev
    refine rd_bind rep ea fun v1 H1 G1 w1 rv1 rep1 s1 k1 _ => ?_
    split at ev
    · rename_i t
      cases ev
      refine ⟨true, tru_V rep1.same rv1 t, ?_⟩
      rw [if_pos rfl]
      exact k v1 H1 G1 w1 rv1 rep1 s1 k1 trivial
    · rename_i t
      refine ⟨false, tru_V rep1.same rv1 t, ?_⟩
      rw [if_neg Bool.false_ne_true]
      exact rd_bind rep1.drop ev fun v2 H2 G2 w2 rv2 rep2 s2 k2 _ => k v2 H2 G2 w2 rv2 rep2 (s1.trans s2) (fun a ha => (k2 a ha).trans (k1 a ha)) trivial
    · cases ev
theorem not_core {K : KW} {σ : L2.St} {H : Hp} {Q : VK} {a : ME} (h : rd K call (.not a) σ H Q) : tNotV (rd K call a) σ H Q := by
  obtain ⟨G, e, F, d, e', rep, ev, k⟩ := h
  rw [mev] at ev
  cases ea : mev call a e with
  | no => rw [ea] at ev; cases ev
  | ok x e1 =>
    rw [ea, bind_ok] at ev
    refine rd_bind rep ea fun v1 H1 G1 w1 rv1 rep1 s1 k1 _ => ?_
    split at ev
    · cases ev
      exact ⟨_, rv1.bl_inv, k _ H1 G1 w1 (by cases rv1; exact .bl _) rep1 s1 k1 trivial⟩
    · cases ev
theorem ife_core {K : KW} {σ : L2.St} {H : Hp} {Q : VK} {c a b : ME} (h : rd K call (.ife c a b) σ H Q) : tIf (rdT K call c) (rd K call a) (rd K call b) σ H Q := by
  obtain ⟨G, e, F, d, e', rep, ev, k⟩ := h
  rw [mev] at ev
  cases ec : truthR (mev call c e) with
  | no => rw [ec] at ev; cases ev
  | ok t e1 =>
    rw [ec, bind_ok] at ev
    refine ⟨G, e, F, t, e1, rep, ec, fun H1 G1 rep1 s1 k1 => ?_⟩
    cases t with
    | true =>
      rw [if_pos rfl]
      exact rd_bind rep1 ev fun v2 H2 G2 w2 rv2 rep2 s2 k2 _ => k v2 H2 G2 w2 rv2 rep2 (s1.trans s2) (fun a ha => (k2 a ha).trans (k1 a ha)) trivial
    | false =>
      rw [if_neg Bool.false_ne_true]
      exact rd_bind rep1 ev fun v2 H2 G2 w2 rv2 rep2 s2 k2 _ => k v2 H2 G2 w2 rv2 rep2 (s1.trans s2) (fun a ha => (k2 a ha).trans (k1 a ha)) trivial
/-! ### the same as tests -/
theorem andT_core {K : KW} {σ : L2.St} {H : Hp} {Q : Bool → Hp → Prop} {a b : ME} (h : rdT K call (.and a b) σ H Q) : tAnd (rdT K call a) (rdT K call b) σ H Q := by
  obtain ⟨G, e, F, d, k, e', rep, ev, t, q⟩ := rdT_of h
  rw [mev] at ev
  cases ea : mev call a e with
  | no => rw [ea] at ev; cases ev
  | ok x e1 =>
    rw [ea, bind_ok] at ev
    split at ev
    · refine ⟨G, e, F, true, e1, rep, truthR_ok ea rfl, fun H1 G1 rep1 s1 k1 => ?_⟩
      refine iteT ?_
      exact ⟨G1, e1, F, k, e', rep1, truthR_ok ev t, fun H2 G2 rep2 s2 k2 => q H2 G2 rep2 (s1.trans s2) fun a ha => (k2 a ha).trans (k1 a ha)⟩
    · cases ev
      cases t
      refine ⟨G, e, F, false, _, rep, truthR_ok ea rfl, fun H1 G1 rep1 s1 k1 => ?_⟩
      refine iteF ?_
      exact q H1 G1 rep1 s1 k1
    · cases ev
theorem orT_coreT {K : KW} {σ : L2.St} {H : Hp} {Q : Bool → Hp → Prop} {a b : ME} (h : rdT K call (.or a b) σ H Q) : tOr (rdT K call a) (rdT K call b) σ H Q := by
  obtain ⟨G, e, F, d, k, e', rep, ev, t, q⟩ := rdT_of h
  rw [mev] at ev
  cases ea : mev call a e with
  | no => rw [ea] at ev; cases ev
  | ok x e1 =>
    rw [ea, bind_ok] at ev
    split at ev
    · cases ev
      cases t
      refine ⟨G, e, F, true, _, rep, truthR_ok ea rfl, fun H1 G1 rep1 s1 k1 => ?_⟩
      refine iteT ?_
      exact q H1 G1 rep1 s1 k1
    · refine ⟨G, e, F, false, e1, rep, truthR_ok ea rfl, fun H1 G1 rep1 s1 k1 => ?_⟩
      refine iteF ?_
      exact ⟨G1, e1, F, k, e', rep1, truthR_ok ev t, fun H2 G2 rep2 s2 k2 => q H2 G2 rep2 (s1.trans s2) fun a ha => (k2 a ha).trans (k1 a ha)⟩
    · cases ev
theorem notT_core {K : KW} {σ : L2.St} {H : Hp} {Q : Bool → Hp → Prop} {a : ME} (h : rdT K call (.not a) σ H Q) : tNot (rdT K call a) σ H Q := by
  obtain ⟨G, e, F, d, k, e', rep, ev, t, q⟩ := rdT_of h
  rw [mev] at ev
  cases ea : mev call a e with
  | no => rw [ea] at ev; cases ev
  | ok x e1 =>
    rw [ea, bind_ok] at ev
    split at ev
    · cases ev
      cases t
      exact ⟨G, e, F, _, _, rep, truthR_ok ea rfl, fun H1 G1 rep1 s1 k1 => q H1 G1 rep1 s1 k1⟩
    · cases ev
/-- by the value's truth -/
theorem tru_core {K : KW} {σ : L2.St} {H : Hp} {Q : Bool → Hp → Prop} {a : ME} (h : rdT K call a σ H Q) : rd K call a σ H fun x H' => ∃ k, TruV K.K x H' k ∧ Q k H' := by
  obtain ⟨G, e, F, d, k, e', rep, ev, t, q⟩ := rdT_of h
  exact rd_bind rep ev fun v H1 G1 ws rv rep1 s1 k1 _ => ⟨k, tru_V rep1.same rv t, q H1 G1 rep1.drop s1 k1⟩
end
end Mp
/-! Calls. -/
namespace Mp
open PySem L2
section
variable {K : KW} {call : CallF} {σ : L2.St}
theorem isHole_of {d : D} (h : ¬ d ≠ .hole) : d = .hole := by
  cases d <;> first
    | rfl
    | exact absurd (fun z => nomatch z) h
theorem set_hole {e : Env} {i : Nat} (h : get e i = .hole) : e.set i .hole = e := by
  by_cases hl : i < e.length
  · apply set_same
    unfold get at h
    rw [List.getD_eq_getElem?_getD, List.getElem?_eq_getElem hl] at h
    rw [List.getElem?_eq_getElem hl]
    exact congrArg some h
  · exact List.set_eq_of_length_le (by omega)
theorem lend_run {H G : Hp} : ∀ {as : MEs} {vs : List V} {ds ds' : List D} {w1 : List Addr} {e e2 : Env} {F : Fm}, RVs K G H vs ds w1 → AVs as σ vs → Rep K σ H G e (plus w1 F) → lend as ds e = some (ds', e2) →
    ∃ w2, RVs K G H vs ds' w2 ∧ Rep K σ H G e2 (plus w2 F)
  | .nil, vs, ds, ds', w1, e, e2, F, rvs, av, rep, h => by
    cases vs with
    | nil =>
      cases rvs
      cases h
      exact ⟨[], .nil, rep⟩
    | cons v vs => exact False.elim av
  | .cons a r, vs, ds, ds', w1, e, e2, F, rvs, av, rep, h => by
    cases rvs with
    | nil => exact False.elim av
    | cons h1 h2 =>
      rename_i v vs d ds o1 o2
      obtain ⟨a1, a2⟩ := av
      have plain : (∀ i, a ≠ .bm i) → lend (.cons a r) (d :: ds) e = (match lend r ds e with
        | some (ds', e') => some (d :: ds', e')
        | none => none) := fun q => by
        cases a <;> first
          | rfl
          | exact absurd rfl (q _)
      by_cases q : ∃ i, a = .bm i
      · obtain ⟨i, rfl⟩ := q
        have h : (match lend r ds (e.set i .hole) with
          | some (ds', e') => some (get e i :: ds', e')
          | none => none) = some (ds', e2) := h
        have a1 : σ[i]? = some (some v) := a1
        by_cases nh : get e i ≠ .hole
        · obtain ⟨v', w, q1, q2, q3⟩ := rep.take nh
          rw [a1] at q1
          cases q1
          split at h
          · rename_i ds2 e3 el
            cases h
            obtain ⟨w2, r1, r2⟩ := lend_run (F := plus w F) h2 a2 (q3.le fun a => by unfold plus; rw [List.count_append]; omega) el
            exact ⟨w ++ w2, .cons q2 r1, r2.le fun a => by unfold plus; rw [List.count_append]; omega⟩
          · cases h
        · have z := isHole_of nh
          rw [set_hole z, z] at h
          split at h
          · rename_i ds2 e3 el
            cases h
            obtain ⟨w2, r1, r2⟩ := lend_run (F := F) h2 a2 (rep.le fun a => by unfold plus; rw [List.count_append]; omega) el
            exact ⟨[] ++ w2, .cons (.hole v) r1, r2⟩
          · cases h
      · rw [plain fun i z => q ⟨i, z⟩] at h
        split at h
        · rename_i ds2 e3 el
          cases h
          obtain ⟨w2, r1, r2⟩ := lend_run (F := plus o1 F) h2 a2 (rep.le fun a => by unfold plus; rw [List.count_append]; omega) el
          exact ⟨o1 ++ w2, .cons h1 r1, r2.le fun a => by unfold plus; rw [List.count_append]; omega⟩
        · cases h
theorem back_run {H G : Hp} : ∀ {as : MEs} {vs : List V} {ds : List D} {w : List Addr} {e : Env} {F : Fm}, RVs K G H vs ds w → AVs as σ vs → Rep K σ H G e (plus w F) → Rep K σ H G (back as ds e) F
  | .nil, vs, ds, w, e, F, rvs, av, rep => by
    cases vs with
    | nil =>
      cases rvs
      exact rep.le fun a => by unfold plus; simp
    | cons v vs => exact False.elim av
  | .cons a r, vs, ds, w, e, F, rvs, av, rep => by
    cases rvs with
    | nil => exact False.elim av
    | cons h1 h2 =>
      rename_i v vs d ds o1 o2
      obtain ⟨a1, a2⟩ := av
      cases a with
      | bm i =>
        have a1 : σ[i]? = some (some v) := a1
        show Rep K σ H G (back r ds (e.set i d)) F
        refine back_run h2 a2 ?_
        exact Rep.put (ws := o1) (rep.le fun a => by unfold plus; rw [List.count_append]; omega) a1 h1
      | _ =>
        show Rep K σ H G (back r ds e) F
        exact back_run h2 a2 (rep.le fun a => by unfold plus; rw [List.count_append]; omega)
theorem call_core {H : Hp} {Q : VK} {f : Nat} {as : MEs} (h : rd K call (.call f as) σ H Q) : tCall (spOf K call f) [] E0 (tArgs K call as) σ H Q := by
  obtain ⟨G, e, F, d, e', rep, ev, k⟩ := h
  rw [mev] at ev
  cases ea : mevs call as e with
  | no => rw [ea] at ev; cases ev
  | ok ds e1 =>
    rw [ea, bind_ok] at ev
    split at ev
    · rename_i ds' e2 el
      split at ev
      · rename_i d1 outs ec
        cases ev
        refine args_run as rep ea fun vs H1 G1 w1 rvs rep1 s1 k1 av => ?_
        rw [List.append_nil]
        obtain ⟨w2, r1, r2⟩ := lend_run rvs av rep1 el
        obtain ⟨os, q1, q2, q3⟩ := r2
        refine ⟨G1, fun a => os.count a + F a, ds', w2, d, outs, r1, q2, q3.le fun a => (by show w2.count a + (os.count a + F a) ≤ os.count a + (w2.count a + F a); omega), ec, fun v H2 G2 w3 w4 rv ro s2 s3 l2 k2 => ?_⟩
        have rep2 : Rep K σ H2 G2 e2 (plus (w3 ++ w4) F) := ⟨os, q1.move s2 fun a ha => k2 a (by have := count_pos.mp ha; show 0 < os.count a + F a; omega), s3, l2.le fun a => (by show os.count a + ((w3 ++ w4).count a + F a) ≤ (w3 ++ w4).count a + (os.count a + F a); omega)⟩
        refine k v H2 G2 w3 rv (back_run (F := plus w3 F) ro av (rep2.le fun a => by unfold plus; rw [List.count_append]; omega)) (s1.trans s2) (fun a ha => (k2 a (by show 0 < os.count a + F a; omega)).trans (k1 a ha)) trivial
      · cases ev
    · cases ev
end
section
variable {g : Gam} {X : Cx} {call : CallF} {n : Nat}
theorem any_star {pos : Pos} : ∀ {es : List Expr} {env : PySem.Env}, es.all notStar = true → (backTo pos (starEach es env)).any (·.1) = false
  | [], env, _ => rfl
  | e :: es, env, h => by
    rw [List.all_cons, Bool.and_eq_true] at h
    have ih := any_star (pos := pos) (env := env) h.2
    rw [star_of h.1]
    show ((false, if false = true then _ else _) :: backTo pos (starEach es env)).any (·.1) = false
    rw [List.any_cons, ih]
    rfl
theorem pe_callM (h : Good g X call n) {x : Str} {f : Nat} {es : List Expr} {as : MEs} {p pos : Pos} (hf : g.fns[f]? = some x) (hg : glB g.sc x = true) (hp : plainName x = true) (hst : es.all notStar = true) (hs : PEs X call es as) :
    PE X (.Call (.Name x p) es [] pos) (rd X.kw call (.call f as)) := by
  obtain ⟨a, fd, ps, m1, m2, m3, m4⟩ := h.fns f x hf
  obtain ⟨p1, p2, p3⟩ := plainName_ok hp
  have hps : Passes CX0 X E0 := fun _ _ _ _ _ _ _ z => z.elim
  match es, as, hs, hst with
  | [], .nil, hs, hst => exact Mp.PE.mono (pe_call0 m4 h.room (h.gl hg) m1 m2 m3 .nil hps p1) fun σ H Q q => call_core q
  | e :: es, .cons b r, hs, hst =>
    refine Mp.PE.mono (pe_call m4 h.room (h.gl hg) m1 m2 m3 .nil hps (pa_ofM hs hst) p1 ?_ ?_) fun σ H Q q => call_core q
    · rw [List.all_cons, Bool.and_eq_true] at hst
      exact star_of hst.1
    · rw [List.all_cons, Bool.and_eq_true] at hst
      exact any_star hst.2
  | [], .cons _ _, hs, _ => exact False.elim hs
  | _ :: _, .nil, hs, _ => exact False.elim hs
end
end Mp
/-! What loops walk; targets. -/
namespace Mp
open PySem L2
def Yields (K : KW) (G0 : Hp) (J : It) (items : List D) : Prop := ∀ (i : Nat) (H G : Hp), Same G0 G → Same G H →
  (∀ d, items[i]? = some d → J.go i H ∧ ∀ x H', J.yld i H x H' → ∃ G', RV K G' H' x d [] ∧ Eff H G H' G' []) ∧ (items[i]? = none → J.stop i H)
section
variable (K : KW) (call : CallF)
def rdI (it : MI) : TI := fun σ H R => ∃ G e F items e', Rep K σ H G e F ∧ mit call it e = .ok items e' ∧
  ∀ J H' G', Rep K σ H' G' e' F → Same G G' → (∀ a, 0 < F a → H' a = H a) → Yields K G' J items → R J H'
end
theorem PI.or {X : Cx} {tg e : Expr} {t t' : TI} (h : PI X tg e t) (h' : PI X tg e t') : PI X tg e (fun σ H R => t σ H R ∨ t' σ H R) := ⟨fun pins s σ H R I hw => by
  rcases hw with q | q
  · exact h.run pins s σ H R I q
  · exact h'.run pins s σ H R I q⟩
section
variable {K : KW} {call : CallF} {σ : L2.St}
theorem RVs.move0 {G G' H H' : Hp} (r : RVs K G H vs ds []) (s : Same G G') : RVs K G' H' vs ds [] := r.move s fun _ h => nomatch h
theorem RV.move0 {G G' H H' : Hp} (r : RV K G H v d []) (s : Same G G') : RV K G' H' v d [] := r.move s fun _ h => nomatch h
theorem RVs.get0 {G H : Hp} : ∀ {vs : List V} {ds : List D} {i : Nat} {d : D}, RVs K G H vs ds [] → ds[i]? = some d → ∃ v, vs[i]? = some v ∧ RV K G H v d []
  | [], [], i, d, _, e => by simp at e
  | v :: vs, d :: ds, 0, d', h, e => by
    simp at e
    subst e
    exact ⟨v, by simp, h.uncons.1⟩
  | v :: vs, d :: ds, i + 1, d', h, e => by
    obtain ⟨v', q1, q2⟩ := RVs.get0 (i := i) h.uncons.2 (by simpa using e)
    exact ⟨v', by simpa using q1, q2⟩
  | [], d :: ds, _, _, h, _ => by cases h
  | v :: vs, [], _, _, h, _ => by cases h
theorem yields_list {G H : Hp} {a : Addr} {vs : List V} {ds : List D} (s : SqL K.K G a vs) (r : RVs K G H vs ds []) : Yields K G (Itl K.K a) ds := fun i H2 G2 s1 s2 => by
  have sl : SqL K.K H2 a vs := s2.seq (s1.seq s)
  refine ⟨fun d e => ?_, fun e => ⟨vs, sl, ?_⟩⟩
  · obtain ⟨v, q1, q2⟩ := r.get0 e
    refine ⟨⟨vs, v, sl, q1⟩, fun x H' y => ?_⟩
    obtain ⟨e1, y⟩ := y
    subst e1
    have := y vs sl
    rw [q1] at this
    cases this
    exact ⟨G2, q2.move0 s1, Eff.refl s2⟩
  · rw [r.length]
    exact List.getElem?_eq_none_iff.mp e
theorem yields_tup {G H : Hp} {a : Addr} {vs : List V} {ds : List D} (s : SqT K.K G a vs) (r : RVs K G H vs ds []) : Yields K G (Itt K.K a) ds := fun i H2 G2 s1 s2 => by
  have sl : SqT K.K H2 a vs := SqT.keep s2 (SqT.keep s1 s)
  refine ⟨fun d e => ?_, fun e => ⟨vs, sl, ?_⟩⟩
  · obtain ⟨v, q1, q2⟩ := r.get0 e
    refine ⟨⟨vs, v, sl, q1⟩, fun x H' y => ?_⟩
    obtain ⟨e1, y⟩ := y
    subst e1
    have := y vs sl
    rw [q1] at this
    cases this
    exact ⟨G2, q2.move0 s1, Eff.refl s2⟩
  · rw [r.length]
    exact List.getElem?_eq_none_iff.mp e
theorem yields_str {G : Hp} (s : List Nat) : Yields K G (Its ⟨s.toArray⟩) (chars s) := fun i H2 G2 s1 s2 => by
  refine ⟨fun d e => ?_, fun e => ?_⟩
  · unfold chars at e
    rw [List.getElem?_map] at e
    obtain ⟨c, e1, rfl⟩ := Option.map_eq_some_iff.mp e
    refine ⟨?_, fun x H' y => ?_⟩
    · show i < s.toArray.size
      have := (List.getElem?_eq_some_iff.mp e1).1
      simpa using this
    · obtain ⟨e2, c', e3, rfl⟩ := y
      subst e2
      have e3 : s[i]? = some c' := by simpa using e3
      rw [e1] at e3
      cases e3
      exact ⟨G2, .str [c], Eff.refl s2⟩
  · unfold chars at e
    show s.toArray.size ≤ i
    have := List.getElem?_eq_none_iff.mp e
    simpa using this
theorem yields_rng {G : Hp} (lo : Int) (n : Nat) : Yields K G (Itr lo n) ((List.range n).map fun (i : Nat) => D.int (lo + i)) := fun i H2 G2 s1 s2 => by
  refine ⟨fun d e => ?_, fun e => ?_⟩
  · rw [List.getElem?_map] at e
    obtain ⟨c, e1, rfl⟩ := Option.map_eq_some_iff.mp e
    have hl := (List.getElem?_eq_some_iff.mp e1).1
    rw [List.length_range] at hl
    rw [List.getElem?_range hl] at e1
    cases e1
    refine ⟨hl, fun x H' y => ?_⟩
    obtain ⟨e2, rfl⟩ := y
    subst e2
    exact ⟨G2, .int _, Eff.refl s2⟩
  · show n ≤ i
    have := List.getElem?_eq_none_iff.mp e
    simpa using this
theorem wholes_of : ∀ {xs : List D}, wholes xs = true → True := fun _ => trivial
/-- a sequence by its value -/
theorem seq_core {m : ME} {H : Hp} {R : It → Hp → Prop} (h : rdI K call (.seq m) σ H R) : (iList K.K (rd K call m) σ H R ∨ iTup K.K (rd K call m) σ H R) ∨ iStr (rd K call m) σ H R := by
  obtain ⟨G, e, F, items, e', rep, ev, k⟩ := h
  rw [mit] at ev
  cases ea : mev call m e with
  | no => rw [ea] at ev; cases ev
  | ok d e1 =>
    rw [ea, bind_ok] at ev
    split at ev
    · split at ev
      · cases ev
        refine .inl (.inl (rd_bind rep ea fun v1 H1 G1 w1 rv1 rep1 s1 k1 _ => ?_))
        obtain ⟨G2, s2, f2, rep2⟩ := rep1.freeze
        have rf : RV K G2 H1 v1 (frz _) [] := rv1.freeze s2 f2
        rw [frz] at rf
        cases rf with
        | frz sl r eo =>
          exact ⟨_, rfl, ⟨_, rep2.same.seq sl⟩, k _ H1 G2 rep2 (s1.trans s2) k1 (yields_list sl r)⟩
      · cases ev
    · split at ev
      · cases ev
        refine .inl (.inr (rd_bind rep ea fun v1 H1 G1 w1 rv1 rep1 s1 k1 _ => ?_))
        obtain ⟨G2, s2, f2, rep2⟩ := rep1.freeze
        have rf : RV K G2 H1 v1 (frz _) [] := rv1.freeze s2 f2
        rw [frz] at rf
        cases rf with
        | tup sl r =>
          exact ⟨_, rfl, ⟨_, SqT.keep rep2.same sl⟩, k _ H1 G2 rep2 (s1.trans s2) k1 (yields_tup sl r)⟩
      · cases ev
    · cases ev
      exact .inr (rd_bind rep ea fun v1 H1 G1 w1 rv1 rep1 s1 k1 _ => ⟨_, rv1.str_inv, k _ H1 G1 rep1.drop s1 k1 (yields_str _)⟩)
    · cases ev
theorem rng1_core {m : ME} {H : Hp} {R : It → Hp → Prop} (h : rdI K call (.rng1 m) σ H R) : iRng1 (tArgs K call (.cons m .nil)) σ H R := by
  obtain ⟨G, e, F, items, e', rep, ev, k⟩ := h
  rw [mit] at ev
  cases ea : mev call m e with
  | no => rw [ea] at ev; cases ev
  | ok d e1 =>
    rw [ea, bind_ok] at ev
    split at ev
    · split at ev
      · rename_i hs
        cases ev
        refine rd_bind rep ea fun v1 H1 G1 w1 rv1 rep1 s1 k1 _ => ?_
        unfold smallI at hs
        simp only [Bool.and_eq_true, decide_eq_true_eq] at hs
        refine ⟨_, by rw [rv1.int_inv], hs.1, hs.2, k _ H1 G1 rep1.drop s1 k1 ?_⟩
        have y := yields_rng (K := K) (G := G1) 0 (Int.toNat ‹Int›)
        simp only [Int.zero_add] at y
        exact y
      · cases ev
    · cases ev
theorem rng2_core {m n : ME} {H : Hp} {R : It → Hp → Prop} (h : rdI K call (.rng2 m n) σ H R) : iRng2 (tArgs K call (.cons m (.cons n .nil))) σ H R := by
  obtain ⟨G, e, F, items, e', rep, ev, k⟩ := h
  rw [mit] at ev
  cases ea : mev call m e with
  | no => rw [ea] at ev; cases ev
  | ok d e1 =>
    rw [ea, bind_ok] at ev
    cases eb : mev call n e1 with
    | no => rw [eb] at ev; cases ev
    | ok d2 e2 =>
      rw [eb, bind_ok] at ev
      split at ev
      · split at ev
        · rename_i hs
          cases ev
          refine rd_bind rep ea fun v1 H1 G1 w1 rv1 rep1 s1 k1 _ => rd_bind rep1.drop eb fun v2 H2 G2 w2 rv2 rep2 s2 k2 _ => ?_
          unfold smallI at hs
          simp only [Bool.and_eq_true, decide_eq_true_eq] at hs
          exact ⟨_, _, by rw [rv1.int_inv, rv2.int_inv], ⟨hs.1.1, hs.1.2, hs.2.1, hs.2.2⟩, k _ H2 G2 rep2.drop (s1.trans s2) (fun a ha => (k2 a ha).trans (k1 a ha)) (yields_rng _ _)⟩
        · cases ev
      · cases ev
theorem enumD_at : ∀ (n : Nat) (ds : List D) (i : Nat), (enumD n ds)[i]? = (ds[i]?).map fun x => D.tup [.int ((n + i : Nat) : Int), x]
  | n, [], i => by simp [enumD]
  | n, d :: ds, 0 => by simp [enumD]
  | n, d :: ds, i + 1 => by
    have := enumD_at (n + 1) ds i
    simp only [enumD, List.getElem?_cons_succ]
    rw [this]
    congr 1
    funext x
    congr 3
    omega
theorem yields_enum {G H : Hp} {a : Addr} {vs : List V} {ds : List D} (s : SqL K.K G a vs) (r : RVs K G H vs ds []) : Yields K G (Ite K.K a) (enumD 0 ds) := fun i H2 G2 s1 s2 => by
  have sl : SqL K.K H2 a vs := s2.seq (s1.seq s)
  rw [enumD_at]
  refine ⟨fun d e => ?_, fun e => ⟨vs, sl, ?_⟩⟩
  · obtain ⟨x0, e1, rfl⟩ := Option.map_eq_some_iff.mp e
    obtain ⟨v, q1, q2⟩ := r.get0 e1
    refine ⟨⟨vs, v, sl, q1⟩, fun x H' y => ?_⟩
    obtain ⟨T, x', rfl, hT, rfl, y⟩ := y
    have e9 := y vs sl
    rw [q1] at e9
    have e9 : v = x' := Option.some.inj e9
    subst e9
    have f := Eff.lay s2 hT (.tup [.int (i : Nat), v])
    refine ⟨_, .tup (.of upd_same) (RVs.cons (o1 := []) (o2 := []) ?_ (RVs.cons (o1 := []) (o2 := []) (q2.move0 (s1.trans f.sg)) .nil)), f⟩
    rw [Nat.zero_add]
    exact .int _
  · rw [r.length]
    exact List.getElem?_eq_none_iff.mp (by simpa using e)
theorem enum_core {m : ME} {H : Hp} {R : It → Hp → Prop} (h : rdI K call (.enum m) σ H R) : iEnum K.K (tArgs K call (.cons m .nil)) σ H R := by
  obtain ⟨G, e, F, items, e', rep, ev, k⟩ := h
  rw [mit] at ev
  cases ea : mev call m e with
  | no => rw [ea] at ev; cases ev
  | ok d e1 =>
    rw [ea, bind_ok] at ev
    split at ev
    · split at ev
      · cases ev
        refine rd_bind rep ea fun v1 H1 G1 w1 rv1 rep1 s1 k1 _ => ?_
        obtain ⟨G2, s2, f2, rep2⟩ := rep1.freeze
        have rf : RV K G2 H1 v1 (frz _) [] := rv1.freeze s2 f2
        rw [frz] at rf
        cases rf with
        | frz sl r eo =>
          exact ⟨_, _, rfl, rep2.same.seq sl, k _ H1 G2 rep2 (s1.trans s2) k1 (yields_enum sl r)⟩
      · cases ev
    · cases ev
end
end Mp
/-! Targets; comprehensions. -/
namespace Mp
open PySem L2
def gNames : List Nat → TGs
  | [] => gNil
  | i :: is => gCons (gName i) (gNames is)
def gT (K : PySem.W.Frag) : Tg → TG
  | .nm i => gName i
  | .tp is => gTup K is.length (gNames is)
  | .tn is j => gTup K 2 (gCons (gTup K is.length (gNames is)) (gCons (gName j) gNil))
theorem wipe_at (σ : L2.St) : ∀ (vs : List Nat) (j : Nat), (wipe σ vs)[j]? = if j ∈ vs then (σ[j]?).map (fun _ => none) else σ[j]?
  | [], j => by simp [wipe]
  | v :: vs, j => by
    unfold wipe
    have ih := wipe_at σ vs j
    by_cases e : v = j
    · subst e
      rw [if_pos (List.mem_cons_self ..)]
      by_cases hl : v < (wipe σ vs).length
      · rw [List.getElem?_set_self hl]
        rw [wipe_length] at hl
        rw [List.getElem?_eq_getElem hl]
        rfl
      · rw [List.getElem?_eq_none (by rw [List.length_set]; omega)]
        rw [wipe_length] at hl
        rw [List.getElem?_eq_none (by omega)]
        rfl
    · rw [List.getElem?_set_ne e, ih]
      by_cases h : j ∈ vs
      · rw [if_pos h, if_pos (List.mem_cons_of_mem _ h)]
      · rw [if_neg h, if_neg (by simp only [List.mem_cons, not_or]; exact ⟨fun z => e z.symm, h⟩)]
theorem wipe_set {σ : L2.St} {i : Nat} {x : Option V} {vs : List Nat} (h : i ∈ vs) : wipe (σ.set i x) vs = wipe σ vs := by
  apply List.ext_getElem?
  intro j
  rw [wipe_at, wipe_at]
  by_cases e : i = j
  · subst e
    rw [if_pos h, if_pos h]
    by_cases hl : i < σ.length
    · rw [List.getElem?_set_self hl, List.getElem?_eq_getElem hl]; rfl
    · rw [List.getElem?_eq_none (by rw [List.length_set]; omega), List.getElem?_eq_none (by omega)]
  · rw [List.getElem?_set_ne e]
section
variable {K : KW} {call : CallF} {G H : Hp}
theorem Rep.store' {σ : L2.St} {e : Env} {F : Fm} {i : Nat} {v : V} {d : D} {ws : List Addr} (r : Rep K σ H G e (plus ws F)) (h : RV K G H v d ws) : Rep K (σ.set i (some v)) H G (e.set i d) F := by
  by_cases hi : i < e.length
  · exact r.store hi h
  · rw [List.set_eq_of_length_le (by rw [r.len]; omega), List.set_eq_of_length_le (by omega)]
    exact r.drop
theorem setAll_run : ∀ {is : List Nat} {vs : List V} {ds : List D} {ws : List Addr} {σ : L2.St} {e e' : Env} {F : Fm} {Q : L2.St → Hp → Prop}, RVs K G H vs ds ws → Rep K σ H G e (plus ws F) → setAll is ds e = some e' →
    (∀ σ', Rep K σ' H G e' F → (∀ ks : List Nat, is.all ks.contains = true → wipe σ' ks = wipe σ ks) → (∀ j, j ∉ is → σ'[j]? = σ[j]?) → Q σ' H) → gNames is vs σ H Q
  | [], vs, ds, ws, σ, e, e', F, Q, rvs, rep, h, k => by
    cases ds with
    | nil =>
      cases rvs
      cases h
      exact ⟨rfl, k σ (rep.le fun a => by unfold plus; simp) (fun _ _ => rfl) fun _ _ => rfl⟩
    | cons d ds => cases h
  | i :: is, vs, ds, ws, σ, e, e', F, Q, rvs, rep, h, k => by
    cases ds with
    | nil => cases h
    | cons d ds =>
      cases rvs with
      | cons h1 h2 =>
        rename_i v vs o1 o2
        have h : setAll is ds (e.set i d) = some e' := h
        refine ⟨v, vs, rfl, ?_⟩
        have r2 : Rep K (σ.set i (some v)) H G (e.set i d) (plus o2 F) := Rep.store' (ws := o1) (rep.le fun a => by unfold plus; rw [List.count_append]; omega) h1
        refine setAll_run h2 r2 h fun σ' r3 w3 n3 => k σ' r3 (fun ks hk => ?_) fun j hj => ?_
        · rw [List.all_cons, Bool.and_eq_true] at hk
          rw [w3 ks hk.2, wipe_set (by simpa using hk.1)]
        · simp only [List.mem_cons, not_or] at hj
          rw [n3 j hj.2, List.getElem?_set_ne fun e => hj.1 e.symm]
theorem tgt_run {pins : List Nat} {tg : Tg} {v : V} {d : D} {ws : List Addr} {σ : L2.St} {e e' : Env} {F : Fm} {Q : L2.St → Hp → Prop} (rv : RV K G H v d ws) (rep : Rep K σ H G e (plus ws F)) (h : store pins tg d e = some e')
    (k : ∀ σ', Rep K σ' H G e' F → (∀ ks : List Nat, tgIn tg ks = true → wipe σ' ks = wipe σ ks) → (∀ j ∈ pins, σ'[j]? = σ[j]?) → Q σ' H) : gT K.K tg v σ H Q := by
  cases tg with
  | nm i =>
    have h : (if pins.contains i then none else some (e.set i d)) = some e' := h
    split at h
    · cases h
    · rename_i hp
      cases h
      exact k _ (rep.store' rv) (fun ks hk => wipe_set (by simpa [tgIn] using hk)) fun j hj => List.getElem?_set_ne fun e => hp (by rw [e]; simpa using hj)
  | tp is =>
    cases d with
    | tup xs =>
      have h : (if is.any pins.contains then none else setAll is xs e) = some e' := h
      split at h
      · cases h
      · rename_i hp
        obtain ⟨a, vs, rfl, _, s, _⟩ := rv.tup_inv rep.same
        cases rv with
        | tup s0 r =>
          refine ⟨a, _, rfl, SqT.keep rep.same s0, ?_, setAll_run r rep h fun σ' q1 q2 q3 => k σ' q1 q2 fun j hj => q3 j fun z => hp (List.any_eq_true.mpr ⟨j, z, by simpa using hj⟩)⟩
          have hl : ∀ {is : List Nat} {xs : List D} {e : Env}, setAll is xs e = some e' → xs.length = is.length := by
            intro is
            induction is with
            | nil =>
              intro xs e h
              cases xs with
              | nil => rfl
              | cons _ _ => cases h
            | cons i is ih =>
              intro xs e h
              cases xs with
              | nil => cases h
              | cons x xs => simp [ih (show setAll is xs (e.set i x) = some e' from h)]
          rw [r.length, hl h]
    | _ => cases h
  | tn is j =>
    unfold store at h
    split at h
    · rename_i q; cases q
    · rename_i q; cases q
    · rename_i is' j' xs d e0 q
      cases q
      split at h
      · cases h
      · rename_i hp
        rw [Bool.or_eq_true, not_or] at hp
        obtain ⟨e1, h1, rfl⟩ := Option.map_eq_some_iff.mp h
        cases rv with
        | tup s0 r =>
          cases r with
          | cons r1 r2 =>
            rename_i v1 vs1 o1 o2
            cases r2 with
            | cons r2 r3 =>
              rename_i v2 vs2 o3 o4
              cases r3
              cases r1 with
              | tup t0 rr =>
                have hl : ∀ {is : List Nat} {xs : List D} {e : Env}, setAll is xs e = some e1 → xs.length = is.length := by
                  intro is
                  induction is with
                  | nil =>
                    intro xs e h
                    cases xs with
                    | nil => rfl
                    | cons _ _ => cases h
                  | cons i is ih =>
                    intro xs e h
                    cases xs with
                    | nil => cases h
                    | cons x xs => simp [ih (show setAll is xs (e.set i x) = some e1 from h)]
                refine ⟨_, _, rfl, SqT.keep rep.same s0, rfl, _, _, rfl, _, _, rfl, SqT.keep rep.same t0, by rw [rr.length, hl h1], ?_⟩
                have rep0 := Rep.le (F' := plus o1 (plus o3 F)) rep fun a => by unfold plus; simp only [List.count_append, List.count_nil]; omega
                refine setAll_run rr rep0 h1 fun σ' q1 q2 q3 => ⟨_, _, rfl, ?_⟩
                refine (show gNil [] _ H _ from ?_)
                refine ⟨rfl, k _ (q1.store' r2) (fun ks hk => ?_) fun i hi => ?_⟩
                · have hk : (is.all ks.contains && ks.contains j) = true := hk
                  rw [Bool.and_eq_true] at hk
                  rw [wipe_set (by simpa using hk.2), q2 ks hk.1]
                · rw [List.getElem?_set_ne (fun e => hp.2 (by rw [e]; simpa using hi)), q3 i fun z => hp.1 (List.any_eq_true.mpr ⟨i, z, by simpa using hi⟩)]
    · cases h
end
section
variable {g : Gam} {X : Cx} {call : CallF} {n : Nat}
theorem pg_nmM (h : Good g X call n) {i : Nat} {x : Str} {pos : Pos} (hs : slotB g i x = true) (hl : locB g.sc x = true) (hf : (g.fn x || decide (g.sc.names.lookup x = some .local)) = true) : PG X (.Name x pos) (gName i) := by
  unfold slotB at hs
  rw [Bool.and_eq_true] at hs
  refine pg_name (by rw [h.N]; exact h.nd) (by rw [h.N]; exact of_decide_eq_true hs.1) ?_ ?_
  · unfold L2.Loc
    rw [h.sc]
    unfold locB at hl
    split at hl
    · rename_i e; exact .inl e
    · rename_i e; exact .inr e
    · cases hl
  · rw [Bool.or_eq_true] at hf
    rw [h.fn, h.sc]
    rcases hf with z | z
    · exact .inl z
    · exact .inr (of_decide_eq_true z)
theorem names_each {env : PySem.Env} : ∀ {es : List Expr}, (∀ e ∈ es, ∃ x p, e = .Name x p) → (assignEach es env).length = es.length ∧ (assignEach es env).findIdx? (·.1) = none
  | [], _ => ⟨rfl, rfl⟩
  | e :: es, h => by
    obtain ⟨x, p, rfl⟩ := h e (List.mem_cons_self ..)
    obtain ⟨h1, h2⟩ := names_each (env := env) (es := es) fun e he => h e (List.mem_cons_of_mem _ he)
    refine ⟨by show (assignEach es env).length + 1 = _; rw [h1]; rfl, ?_⟩
    show ((false, _) :: assignEach es env).findIdx? (·.1) = none
    rw [List.findIdx?_cons]
    simp [h2]
theorem pgs_M (h : Good g X call n) : ∀ {is : List Nat} {es : List Expr}, es.length = is.length → ((is.zip es).all fun p => match p.2 with
    | .Name x _ => slotB g p.1 x && (locB g.sc x && (g.fn x || decide (g.sc.names.lookup x = some .local)))
    | _ => false) = true → PGs X es (gNames is) ∧ ∀ e ∈ es, ∃ x p, e = .Name x p
  | [], [], _, _ => ⟨pgs_nil, fun _ q => nomatch q⟩
  | i :: is, e :: es, hl, hz => by
    rw [List.zip_cons_cons, List.all_cons, Bool.and_eq_true] at hz
    obtain ⟨h1, h2⟩ := pgs_M h (is := is) (es := es) (by simpa using hl) hz.2
    have z := hz.1
    split at z
    · rename_i x p he
      simp only at he
      subst he
      simp only [Bool.and_eq_true] at z
      refine ⟨pgs_cons (pg_nmM h z.1 z.2.1 z.2.2) h1, fun e' he => ?_⟩
      rcases List.mem_cons.mp he with rfl | he
      · exact ⟨x, p, rfl⟩
      · exact h2 e' he
    · cases z
  | [], _ :: _, hl, _ => by simp at hl
  | _ :: _, [], hl, _ => by simp at hl
theorem pg_M (h : Good g X call n) {tg : Tg} {t : Expr} (ht : tgB g tg t = true) : PG X t (gT X.K tg) := by
  cases tg with
  | nm i =>
    cases t with
    | Name x p =>
      have ht : (slotB g i x && (locB g.sc x && (g.fn x || decide (g.sc.names.lookup x = some .local)))) = true := ht
      rw [Bool.and_eq_true, Bool.and_eq_true] at ht
      exact pg_nmM h ht.1 ht.2.1 ht.2.2
    | _ => cases ht
  | tp is =>
    cases t with
    | Tuple es k p =>
      have ht : (es.length == is.length && _) = true := ht
      rw [Bool.and_eq_true] at ht
      have hl : es.length = is.length := by simpa using ht.1
      obtain ⟨h1, h2⟩ := pgs_M h hl ht.2
      obtain ⟨h3, h4⟩ := names_each (env := X.env) h2
      exact pg_tup h.calm h1 (h3.trans hl) h4
    | _ => cases ht
  | tn is j =>
    unfold tgB at ht
    split at ht
    · rename_i q; cases q
    · rename_i q; cases q
    · rename_i is' j' es k1 p1 x p2 k2 p3 q
      cases q
      rw [Bool.and_eq_true, Bool.and_eq_true] at ht
      obtain ⟨⟨hl, hz⟩, hj⟩ := ht
      have hl : es.length = is.length := by simpa using hl
      obtain ⟨h1, h2⟩ := pgs_M h hl hz
      obtain ⟨h3, h4⟩ := names_each (env := X.env) h2
      rw [Bool.and_eq_true, Bool.and_eq_true] at hj
      exact pg_tup h.calm (pgs_cons (pg_tup h.calm h1 (h3.trans hl) h4) (pgs_cons (pg_nmM h hj.1 hj.2.1 hj.2.2) pgs_nil)) rfl rfl
    · cases ht
end
end Mp
/-! Comprehensions. -/
namespace Mp
open PySem L2
/-- what wiped slots held -/
inductive Sv (K : KW) (G H : Hp) (σ : L2.St) (e : Env) : List Nat → List Addr → Prop
  | nil : Sv K G H σ e [] []
  | cons {i : Nat} {is : List Nat} {o : Option V} {o1 o2 : List Addr} : σ[i]? = some o → RO K G H o (get e i) o1 → Sv K G H σ e is o2 → Sv K G H σ e (i :: is) (o1 ++ o2)
  | out {i : Nat} {is : List Nat} {o2 : List Addr} : ¬ i < e.length → Sv K G H σ e is o2 → Sv K G H σ e (i :: is) o2
section
variable {K : KW} {call : CallF} {G G' H H' : Hp} {σ : L2.St} {e e' : Env} {F : Fm}
theorem Sv.move (sg : Same G G') : ∀ {is : List Nat} {w : List Addr}, Sv K G H σ e is w → (∀ a ∈ w, H' a = H a) → Sv K G' H' σ e is w
  | _, _, .nil, _ => .nil
  | _, _, .cons h1 h2 r, k => .cons h1 (h2.move sg fun a ha => k a (List.mem_append_left _ ha)) (Sv.move sg r fun a ha => k a (List.mem_append_right _ ha))
  | _, _, .out h r, k => .out h (Sv.move sg r k)
theorem wipeE_len (e : Env) : ∀ is : List Nat, (wipeE e is).length = e.length
  | [] => rfl
  | i :: is => by unfold wipeE; rw [List.length_set, wipeE_len e is]
theorem get_set_ne {e : Env} {i j : Nat} {d : D} (h : i ≠ j) : get (e.set i d) j = get e j := by
  unfold get
  rw [List.getD_eq_getElem?_getD, List.getD_eq_getElem?_getD, List.getElem?_set_ne h]
theorem get_wipeE {e : Env} {j : Nat} : ∀ {is : List Nat}, j ∉ is → get (wipeE e is) j = get e j
  | [], _ => rfl
  | i :: is, h => by
    simp only [List.mem_cons, not_or] at h
    unfold wipeE
    rw [get_set_ne (fun z => h.1 z.symm), get_wipeE h.2]
theorem wipe_run (rep : Rep K σ H G e F) : ∀ {is : List Nat}, is.Nodup → ∃ w, Sv K G H σ e is w ∧ Rep K (wipe σ is) H G (wipeE e is) (plus w F)
  | [], _ => ⟨[], .nil, rep.le fun a => by unfold plus; simp⟩
  | i :: is, nd => by
    rw [List.nodup_cons] at nd
    obtain ⟨w, s, r⟩ := wipe_run rep nd.2
    by_cases hl : i < e.length
    · obtain ⟨os, r1, r2, r3⟩ := r
      obtain ⟨o, o1, o2, h1, h2, h3, h4⟩ := r1.at i (by rw [wipeE_len]; exact hl)
      obtain ⟨os', q1, q2⟩ := h4 none .hole [] .none
      rw [wipe_at, if_neg nd.1] at h1
      rw [get_wipeE nd.1] at h2
      refine ⟨o1 ++ w, .cons h1 h2 s, os', q1, r2, r3.le fun a => ?_⟩
      have z1 := q2 a
      have z2 := h3 a
      show os'.count a + plus (o1 ++ w) F a ≤ os.count a + plus w F a
      unfold plus
      rw [List.count_append]
      simp at z1
      omega
    · refine ⟨w, .out hl s, ?_⟩
      unfold wipe wipeE
      rw [List.set_eq_of_length_le (by rw [wipe_length, rep.len]; omega), List.set_eq_of_length_le (by rw [wipeE_len]; omega)]
      exact r
theorem put_run {e0 : Env} : ∀ {is : List Nat} {w : List Addr} {e : Env} {F : Fm}, is.Nodup → e.length = e0.length → Sv K G H σ e0 is w → Rep K (wipe σ is) H G e (plus w F) → Rep K σ H G (putE e0 e is) F
  | [], _, e, F, _, _, .nil, r => r.le fun a => by unfold plus; simp
  | i :: is, _, e, F, nd, hl, .cons (o := o) (o1 := o1) (o2 := o2) h1 h2 s, r => by
    rw [List.nodup_cons] at nd
    show Rep K σ H G (putE e0 (e.set i (get e0 i)) is) F
    refine put_run (F := F) nd.2 (by rw [List.length_set]; exact hl) s ?_
    have hi : i < σ.length := (List.getElem?_eq_some_iff.mp h1).1
    have hie : i < e.length := by
      have := r.len
      rw [wipe_length] at this
      omega
    obtain ⟨os, r1, r2, r3⟩ := r
    obtain ⟨o', p1, p2, g1, g2, g3, g4⟩ := r1.at i hie
    obtain ⟨os', q1, q2⟩ := g4 o (get e0 i) o1 h2
    have z : (wipe σ (i :: is)).set i o = wipe σ is := by
      apply List.ext_getElem?
      intro j
      by_cases e : i = j
      · subst e
        rw [List.getElem?_set_self (by rw [wipe_length]; exact hi), wipe_at, if_neg nd.1, h1]
      · rw [List.getElem?_set_ne e, wipe_at, wipe_at]
        have : (j ∈ i :: is) ↔ j ∈ is := by simp only [List.mem_cons]; exact ⟨fun z => z.elim (fun y => absurd y.symm e) id, .inr⟩
        simp only [this]
    rw [z] at q1
    refine ⟨os', q1, r2, r3.le fun a => ?_⟩
    have z1 := q2 a
    have z2 := g3 a
    show os'.count a + plus o2 F a ≤ os.count a + plus (o1 ++ o2) F a
    unfold plus
    rw [List.count_append]
    omega
  | i :: is, _, e, F, nd, hl, .out h s, r => by
    rw [List.nodup_cons] at nd
    show Rep K σ H G (putE e0 (e.set i (get e0 i)) is) F
    rw [List.set_eq_of_length_le (by omega)]
    refine put_run nd.2 hl s ?_
    have := r.len
    rw [wipe_length] at this
    unfold wipe at r
    rw [List.set_eq_of_length_le (by rw [wipe_length]; omega)] at r
    exact r
theorem wipe_drop {F : Fm} (rep : Rep K σ H G e F) {is : List Nat} (nd : is.Nodup) : Rep K (wipe σ is) H G (wipeE e is) F := by
  obtain ⟨w, _, r⟩ := wipe_run rep nd
  exact r.drop
theorem wipe_wipe (σ : L2.St) (vs : List Nat) : wipe (wipe σ vs) vs = wipe σ vs := by
  apply List.ext_getElem?
  intro j
  rw [wipe_at, wipe_at]
  by_cases h : j ∈ vs
  · rw [if_pos h, if_pos h]
    cases σ[j]? <;> rfl
  · rw [if_neg h, if_neg h]
/-- a thing held elsewhere is changed -/
theorem Rep.updF (rep : Rep K σ H G e F) {D : Addr} (hD : 0 < F D) {o : HO} : Rep K σ (upd H D o) G e F := by
  obtain ⟨os, r1, r2, r3⟩ := rep
  have z : os.count D + F D ≤ 1 ∧ (0 < os.count D + F D → G D = none ∧ H D ≠ none) := r3 D
  have nG := (z.2 (by omega)).1
  have nD : D ∉ os := fun ha => by have := count_pos.mp ha; omega
  refine ⟨os, r1.move (fun _ _ h => h) fun a ha => upd_ne (fun e => nD (e ▸ ha)), fun a x h => ?_, fun a => ?_⟩
  · rw [upd_ne (fun e => by rw [e, nG] at h; cases h)]
    exact r2 a x h
  · have y := r3 a
    refine ⟨y.1, fun q => ⟨(y.2 q).1, ?_⟩⟩
    by_cases e : a = D
    · rw [e, upd_same]; simp
    · rw [upd_ne e]; exact (y.2 q).2
def turnE (call : CallF) (own : List Nat) (tg : Tg) (cond elt : ME) : D → Env → R (Option D) := turnR own tg (fun e => truthR (mev call cond e)) (fun e => mev call elt e)
section
variable {own : List Nat} {tg : Tg} {cond elt : ME} {x : D} {e2 e3 e4 e5 : Env} {d : D}
theorem turn_no1 (h : store [] tg x e2 = none) : turnE call own tg cond elt x e2 = .no := by
  unfold turnE turnR; rw [h]; rfl
theorem turn_no2 (h : store [] tg x e2 = some e3) (t : truthR (mev call cond e3) = .no) : turnE call own tg cond elt x e2 = .no := by
  unfold turnE turnR; rw [h, of_some, bind_ok]; simp only [t]; rfl
theorem turn_f (h : store [] tg x e2 = some e3) (t : truthR (mev call cond e3) = .ok false e4) : turnE call own tg cond elt x e2 = .ok none (wipeE e4 own) := by
  unfold turnE turnR; rw [h, of_some, bind_ok]; simp only [t, bind_ok]
theorem turn_no3 (h : store [] tg x e2 = some e3) (t : truthR (mev call cond e3) = .ok true e4) (z : mev call elt e4 = .no) : turnE call own tg cond elt x e2 = .no := by
  unfold turnE turnR; rw [h, of_some, bind_ok]; simp only [t, bind_ok, z]; rfl
theorem turn_t (h : store [] tg x e2 = some e3) (t : truthR (mev call cond e3) = .ok true e4) (z : mev call elt e4 = .ok d e5) : turnE call own tg cond elt x e2 = .ok (some d) (wipeE e5 own) := by
  unfold turnE turnR; rw [h, of_some, bind_ok]; simp only [t, bind_ok, z]
end
theorem lc_coreM {own : List Nat} {tg : Tg} {it : MI} {cond elt : ME} {H : Hp} {Q : VK} (nd : own.Nodup) (hin : tgIn tg own = true) (h : rd K call (.lc own tg it cond elt) σ H Q) : tLc (rdI K call it) (gT K.K tg) (rdT K call cond) (rd K call elt) own σ H Q := by
  obtain ⟨G, e, F, d, e', rep, ev, k⟩ := h
  rw [mev] at ev
  change ((mit call it e).bind fun items e1 => (compL (turnE call own tg cond elt) items (wipeE e1 own)).bind fun ds e6 => if ds.length ≤ bigLine then R.ok (D.lst true ds) (putE e1 e6 own) else .no) = R.ok d e' at ev
  cases ei : mit call it e with
  | no => rw [ei] at ev; cases ev
  | ok items e1 =>
    rw [ei, bind_ok] at ev
    cases ec : compL (turnE call own tg cond elt) items (wipeE e1 own) with
    | no => rw [ec] at ev; cases ev
    | ok ds e6 =>
      rw [ec, bind_ok] at ev
      split at ev
      · rename_i hlen
        cases ev
        refine ⟨G, e, F, items, e1, rep, ei, fun J H1 G1 rep1 s1 k1 ys D hD => ?_⟩
        obtain ⟨w, sv, rep2⟩ := wipe_run rep1 nd
        have fD := Eff.layO rep2.same hD (.lst [])
        -- the invariant
        let W : Nat → Nat → Hp → Prop := fun i m H2 => m = items.length - i ∧ i ≤ items.length ∧ ∃ G2 e2 vs acc rest wa, Same G1 G2 ∧ (∀ a, 0 < F a → H2 a = H1 a) ∧ (∀ a ∈ w, H2 a = H1 a) ∧ Rep K (wipe σ own) H2 G2 e2 (plus (D :: wa) (plus w F)) ∧
          H2 D = some (.lst vs) ∧ RVs K G2 H2 vs acc wa ∧ compL (turnE call own tg cond elt) (items.drop i) e2 = .ok rest e6 ∧ acc ++ rest = ds
        refine ⟨W, ⟨items.length, by simp, Nat.zero_le _, G1, wipeE e1 own, [], [], ds, [], fun _ _ h => h, fun a ha => fD.keep (rep1.there ha), fun a ha => fD.keep (rep2.there (plus_pos ha)), rep2.eff fD, upd_same, .nil, by simpa using ec, rfl⟩, ?_⟩
        rintro i m H2 ⟨rfl, hi, G2, e2, vs, acc, rest, wa, sg, kF, kw, rep3, hDl, rvs, er, ea⟩
        obtain ⟨y1, y2⟩ := ys i H2 G2 sg rep3.same
        have pD : 0 < plus (D :: wa) (plus w F) D := plus_pos (List.mem_cons_self ..)
        have pF : ∀ a, 0 < F a → 0 < plus (D :: wa) (plus w F) a := fun a ha => plus_pos' (plus_pos' ha)
        have pw : ∀ a ∈ w, 0 < plus (D :: wa) (plus w F) a := fun a ha => plus_pos' (plus_pos ha)
        have pa : ∀ a ∈ wa, 0 < plus (D :: wa) (plus w F) a := fun a ha => plus_pos (List.mem_cons_of_mem _ ha)
        have lin : ∀ a, plus (D :: wa) (plus w F) a ≤ 1 := fun a => by
          obtain ⟨os, _, _, r3⟩ := rep3
          have := (r3 a).1
          have z : os.count a + plus (D :: wa) (plus w F) a ≤ 1 := this
          omega
        have nwa : D ∉ wa := fun ha => by
          have z := lin D
          have q := count_pos.mp ha
          unfold plus at z
          rw [List.count_cons_self] at z
          omega
        have nF : ∀ a, 0 < F a → a ≠ D := fun a ha e => by
          have z := lin D
          rw [e] at ha
          unfold plus at z
          rw [List.count_cons_self] at z
          omega
        have nw : ∀ a ∈ w, a ≠ D := fun a ha e => by
          have z := lin D
          have q := count_pos.mp ha
          rw [e] at q
          unfold plus at z
          rw [List.count_cons_self] at z
          omega
        cases ex : items[i]? with
        | none =>
          refine .inl ⟨y2 ex, ?_⟩
          have hd : items.drop i = [] := List.drop_eq_nil_iff.mpr (List.getElem?_eq_none_iff.mp ex)
          rw [hd] at er
          cases er
          rw [List.append_nil] at ea
          subst ea
          have sv2 : Sv K G2 H2 σ e1 own w := sv.move sg kw
          have hel : e6.length = e1.length := by
            have z1 := rep3.len
            have z2 := rep1.len
            rw [wipe_length] at z1
            omega
          have rep4 := put_run (F := plus (D :: wa) F) nd hel sv2 (rep3.le fun a => by unfold plus; omega)
          exact k (.ref D) H2 G2 (D :: wa) (.own hDl rvs) rep4 (s1.trans sg) (fun a ha => (kF a ha).trans (k1 a ha)) trivial
        | some x =>
          obtain ⟨y3, y4⟩ := y1 x ex
          have hlt : i < items.length := (List.getElem?_eq_some_iff.mp ex).1
          have hd : items.drop i = x :: items.drop (i + 1) := by
            rw [List.drop_eq_getElem_cons hlt]
            congr 1
            exact Option.some.inj ((List.getElem?_eq_getElem hlt).symm.trans ex)
          refine .inr ⟨y3, fun H' => W (i + 1) (items.length - (i + 1)) H', fun H' z => ⟨items.length - (i + 1), by omega, z⟩, fun xv H3 hy => ?_⟩
          obtain ⟨G3, rvx, f3⟩ := y4 xv H3 hy
          rw [hd, compL] at er
          have rep4 := rep3.eff f3
          cases es : store [] tg x e2 with
          | none =>
            rw [turn_no1 es] at er
            cases er
          | some e3 =>
            cases et : truthR (mev call cond e3) with
            | no =>
              rw [turn_no2 es et] at er
              cases er
            | ok kb e4 =>
              refine tgt_run (pins := []) (ws := []) (F := plus (D :: wa) (plus w F)) rvx (rep4.le fun a => by unfold plus; simp) es fun σ2 rep5 wz _ => ?_
              have wz2 : wipe σ2 own = wipe σ own := by rw [wz own hin, wipe_wipe]
              refine ⟨by first | exact wz2 | rw [wz2, wipe_wipe], G3, e3, _, kb, e4, rep5, et, fun H4 G4 rep6 s4 k4 => ?_⟩
              have c4 : ∀ a, 0 < plus (D :: wa) (plus w F) a → H4 a = H2 a := fun a ha => (k4 a ha).trans (f3.keep (rep3.there ha))
              have sg4 : Same G2 G4 := f3.sg.trans s4
              cases kb with
              | true =>
                refine iteT ?_
                cases eel : mev call elt e4 with
                | no => rw [turn_no3 es et eel] at er; cases er
                | ok d e5 =>
                  rw [turn_t es et eel, bind_ok] at er
                  cases er2 : compL (turnE call own tg cond elt) (items.drop (i + 1)) (wipeE e5 own) with
                  | no =>
                    rw [er2] at er
                    cases er
                  | ok rest2 e7 =>
                    rw [er2, bind_ok] at er
                    cases er
                    refine rd_bind rep6 eel fun y H5 G5 w5 rv5 rep7 s5 k5 _ => ?_
                    have c5 : ∀ a, 0 < plus (D :: wa) (plus w F) a → H5 a = H2 a := fun a ha => (k5 a ha).trans (c4 a ha)
                    refine ⟨vs, (c5 D pD).trans hDl, ?_, rfl, by omega, ?_⟩
                    · rw [rvs.length, ← big_eq]
                      have := congrArg List.length ea
                      simp at this
                      omega
                    · have rep8 := wipe_drop rep7 nd
                      rw [wz2] at rep8
                      have rep9 := rep8.updF (o := .lst (vs ++ [y])) (D := D) (plus_pos' pD)
                      have n5 : D ∉ w5 := fun ha => by
                        obtain ⟨os, _, _, r3⟩ := rep7
                        have z : os.count D + plus w5 (plus (D :: wa) (plus w F)) D ≤ 1 := (r3 D).1
                        have q := count_pos.mp ha
                        unfold plus at z
                        rw [List.count_cons_self] at z
                        omega
                      refine ⟨G5, wipeE e5 own, vs ++ [y], acc ++ [d], rest2, wa ++ (w5 ++ []), sg.trans (sg4.trans s5), fun a ha => ?_, fun a ha => ?_, rep9.le fun a => ?_, upd_same, ?_, er2, ?_⟩
                      · rw [upd_ne (nF a ha)]
                        exact (c5 a (pF a ha)).trans (kF a ha)
                      · rw [upd_ne (nw a ha)]
                        exact (c5 a (pw a ha)).trans (kw a ha)
                      · unfold plus
                        rw [List.append_nil, List.count_cons, List.count_cons, List.count_append]
                        omega
                      · refine RVs.app (rvs.move (sg4.trans s5) fun a ha => ?_) (.cons (rv5.move (fun _ _ h => h) fun a ha => ?_) .nil)
                        · rw [upd_ne (fun q => nwa (by rw [← q]; exact ha))]
                          exact c5 a (pa a ha)
                        · rw [upd_ne (fun q => n5 (by rw [← q]; exact ha))]
                      · rw [← ea]; simp
              | false =>
                refine iteF ?_
                rw [turn_f es et, bind_ok] at er
                cases er2 : compL (turnE call own tg cond elt) (items.drop (i + 1)) (wipeE e4 own) with
                | no =>
                  rw [er2] at er
                  cases er
                | ok rest2 e7 =>
                  rw [er2, bind_ok] at er
                  cases er
                  have rep8 := wipe_drop rep6 nd
                  rw [wz2] at rep8
                  exact ⟨rfl, by omega, G4, wipeE e4 own, vs, acc, rest, wa, sg.trans sg4, fun a ha => (c4 a (pF a ha)).trans (kF a ha), fun a ha => (c4 a (pw a ha)).trans (kw a ha), rep8, (c4 D pD).trans hDl, rvs.move sg4 fun a ha => c4 a (pa a ha), er2, ea⟩
      · cases ev
end
end Mp
/-! Every expression. -/
namespace Mp
open PySem L2
section
variable {g : Gam} {X : Cx} {call : CallF} {n : Nat}
theorem op_bl {o : Op} {as : MEs} (hb : ∀ ds d, opSem o ds = some d → ∃ k, d = .bl k) : ∀ e d e', mev call (.op o as) e = .ok d e' → ∃ k, d = .bl k := fun e d e' ev => by
  rw [mev] at ev
  cases ea : mevs call as e with
  | no => rw [ea] at ev; cases ev
  | ok ds e1 =>
    rw [ea, bind_ok] at ev
    cases eo : opV o (fix as ds e1) with
    | none => rw [eo] at ev; cases ev
    | some d1 =>
      rw [eo, of_some] at ev
      cases ev
      exact hb _ _ (opV_some eo).2
theorem chain_bl {o o' : Op} {a b c : ME} (hb : ∀ ds d, opSem o' ds = some d → ∃ k, d = .bl k) : ∀ e d e', mev call (.chain o o' a b c) e = .ok d e' → ∃ k, d = .bl k := fun e d e' ev => by
  rw [mev] at ev
  cases ea : mev call a e with
  | no => rw [ea] at ev; cases ev
  | ok x e1 =>
    rw [ea, bind_ok] at ev
    cases eb : mev call b e1 with
    | no => rw [eb] at ev; cases ev
    | ok y e2 =>
      rw [eb, bind_ok] at ev
      split at ev
      · cases ec : mev call c e2 with
        | no => rw [ec] at ev; cases ev
        | ok z e3 =>
          rw [ec, bind_ok] at ev
          cases eo2 : opV o' [y, z] with
          | none => rw [eo2] at ev; cases ev
          | some d2 =>
            rw [eo2, of_some] at ev
            cases ev
            exact hb _ _ (opV_some eo2).2
      · cases ev; exact ⟨_, rfl⟩
      · cases ev
theorem pt_cmp2 {o : Op} {op : CmpOp} {r : R2} {a b : Expr} {as : MEs} {pos : Pos} (ho : OpR X (compareOp op) r) (ok : OpOk X.kw (rL2 r) o) (hs : PEs X call [a, b] as) (hm : behindInMarks op b = false) (hb : ∀ ds d, opSem o ds = some d → ∃ k, d = .bl k) :
    L2.PT X (.Compare a [op] [b] pos) (rdT X.kw call (.op o as)) := by
  obtain ⟨x, y, rfl, h1, h2⟩ := hs.two
  exact PT.mono (pt_cmpR ho h1 h2 hm) fun σ H Q q => op_core ok (rdT_bl q (op_bl hb))
theorem in_bl {f : D → D → Option Bool} {k : Bool → Bool} {ds : List D} {d : D} (h : sem2 (fun a b => (f a b).map fun r => D.bl (k r)) ds = some d) : ∃ k, d = .bl k := by
  obtain ⟨a, b, _, hf⟩ := sem2_some h
  obtain ⟨r, _, e⟩ := Option.map_eq_some_iff.mp hf
  exact ⟨_, e.symm⟩
def leafE : Expr → Bool
  | .Name .. => true
  | .Call .. => true
  | .Constant .. => true
  | .Subscript .. => true
  | .Compare .. => true
  | _ => false
theorem pt_leaf {e : Expr} {m : ME} (hp : PE X e (rd X.kw call m)) (hl : leafE e = true) (hc : ∀ l ops cs p, e ≠ .Compare l ops cs p) : L2.PT X e (rdT X.kw call m) := by
  cases e <;> first
    | exact PT.mono (pt_truth hp fun _ => rfl) fun σ H Q q => tru_core q
    | (cases hl; done)
    | exact absurd rfl (hc _ _ _ _)
theorem pt_opM (h : Good g X call n) {o : Op} {l : Expr} {ops : List CmpOp} {cs : List Expr} {pos : Pos} {es : List Expr} {as : MEs} (ho : opArgs g o (.Compare l ops cs pos) = some es) (hst : strictB o as = true) (hs : PEs X call es as) :
    L2.PT X (.Compare l ops cs pos) (rdT X.kw call (.op o as)) := by
  have main : ∀ (o' : Op) (op : CmpOp), cmpOp o' = some op → ∀ {a b : Expr}, PEs X call [a, b] as → L2.PT X (.Compare a [op] [b] pos) (rdT X.kw call (.op o' as)) := fun o' op e a b hs => by
    obtain ⟨r, h1, h2, h3, h4, h5⟩ := cmp_rule h e
    exact pt_cmp2 h1 h2 hs (nobehind b h3 h4) h5
  unfold opArgs at ho
  split at ho <;> (try (first | (cases ho; done) | (split at ho <;> (cases ho; done))))
  case h_7 =>
    split at ho
    · rename_i q; cases ho; cases q; exact main _ _ rfl hs
    · cases ho
  case h_8 =>
    split at ho
    · rename_i q; cases ho; cases q; exact main _ _ rfl hs
    · cases ho
  case h_9 =>
    split at ho
    · rename_i q; cases ho; cases q; exact main _ _ rfl hs
    · cases ho
  case h_10 =>
    split at ho
    · rename_i q; cases ho; cases q; exact main _ _ rfl hs
    · cases ho
  case h_11 =>
    split at ho
    · rename_i q; cases ho; cases q; exact main _ _ rfl hs
    · cases ho
  case h_12 =>
    split at ho
    · rename_i q; cases ho; cases q; exact main _ _ rfl hs
    · cases ho
  case h_13 =>
    split at ho
    · rename_i q
      cases q
      split at ho
      · cases ho
      · rename_i hb
        cases ho
        exact pt_cmp2 (op_inA h.u) okx_in hs (by simpa using hb) fun ds d q => in_bl (k := fun r => r) q
    · cases ho
  case h_14 =>
    split at ho
    · rename_i q
      cases q
      split at ho
      · cases ho
      · rename_i hb
        cases ho
        exact pt_cmp2 (op_notInA h.u) okx_notin hs (by simpa using hb) fun ds d q => in_bl (k := fun r => !r) q
    · cases ho
  case h_15 =>
    split at ho
    · rename_i q
      cases ho
      cases q
      obtain ⟨a, rfl, h1⟩ := hs.one
      refine PT.mono (pt_cmp (pc_isN h1)) fun σ H Q q => op_coreN okx_isN (rdT_bl q (op_bl fun ds d z => ?_))
      obtain ⟨x, _, z⟩ := sem1_some z
      cases z
      exact ⟨_, rfl⟩
    · cases ho
  case h_16 =>
    split at ho
    · rename_i q
      cases ho
      cases q
      obtain ⟨a, rfl, h1⟩ := hs.one
      refine PT.mono (pt_cmp (pc_notN h1)) fun σ H Q q => op_coreN okx_notN (rdT_bl q (op_bl fun ds d z => ?_))
      obtain ⟨x, _, z⟩ := sem1_some z
      cases z
      exact ⟨_, rfl⟩
    · cases ho
  case h_30 =>
    split at ho
    · rename_i q; cases q
    · rename_i q; cases q
    · rename_i q; cases q
    · rename_i q; cases q
    · cases ho
end
end Mp
/-! {k: v}, k a tuple of whole numbers, nested. -/
namespace Mp
open PySem L2 PyProof.Rows
theorem pe_d1M {X : Cx} {call : CallF} (hu : X.A.units + 64 < cLine) {kx vx : Expr} {pos : Pos} {km vm : ME} (hk : PE X kx (rd X.kw call km)) (hv : PE X vx (rd X.kw call vm)) : PE X (.Dict [some kx] [vx] pos) (rd X.kw call (.d1 km vm)) := by
  refine ⟨fun pins s σ H Q I q => ?_⟩
  obtain ⟨G, e, F, d', e', rep, ev, k⟩ := q
  rw [mev] at ev
  cases ek : mev call km e with
  | no => rw [ek] at ev; cases ev
  | ok kd e1 =>
    rw [ek, bind_ok] at ev
    cases evv : mev call vm e1 with
    | no => rw [evv] at ev; cases ev
    | ok vd e2 =>
      rw [evv, bind_ok] at ev
      split at ev
      · rename_i hc
        rw [Bool.and_eq_true] at hc
        cases ev
        have hn := I.hok.fresh (Nat.le_refl s.heap.objs.size)
        generalize hp : s.heap.objs.size = p at hn
        have I1 := I.laid (a := s.heap.objs.size) (o := .dK []) (h' := s.heap.push { cls := .type "dict", data := .dict #[] }) (t' := s.toks) (fun _ _ q => Heap.get?_push_of_some _ q) (Nat.le_refl _) (dk_empty s.heap I.big)
        rw [hp] at I1
        have f := Eff.layO rep.same hn (.dK [])
        have rep1 := rep.eff f
        have pp : ∀ {ws : List Addr}, 0 < plus ws (plus [p] F) p := fun {ws} => plus_pos' (plus_pos (List.mem_cons_self ..))
        have hlen := pairTrees_length [some kx] [vx] X.env pos (by rfl) (by rfl)
        have zp := zip_pairTrees [some kx] [vx] X.env pos (by rfl) (by rfl)
        rw [arm_eval_Dict, zp, dictDisplay_pairs (pairTrees [some kx] [vx] X.env pos) (by unfold pairTrees; exact List.cons_ne_nil _ _) (by rw [hlen, List.length_singleton]; decide)]
        refine wpAny_bind (wpAny_standAt (wpAny_bind (wpAny_subDictH (knd := nestedKind X.prog X.w) (Q := fun d s' => wpAny (model X.prog X.w) X.A (pure (Value.ref d)) (EP X pins σ Q) X.xe s') (by show X.A.units + 8 < cLine; omega) (by rw [hlen, List.length_singleton]; decide) ?_)))
        let fin : V → V → Hp → Prop := fun v1 v2 H2 => ∃ G2 w2, RV X.kw G2 H2 v1 kd [] ∧ RV X.kw G2 H2 v2 vd w2 ∧ Rep X.kw σ H2 G2 e' (plus w2 (plus [p] F)) ∧ Same G G2 ∧ (∀ a, 0 < F a → H2 a = H a) ∧ H2 p = some (.dK [])
        have key : rd X.kw call km σ (upd H p (.dK [])) (fun v1 H1 => rd X.kw call vm σ H1 (fun v2 H2 => fin v1 v2 H2)) := by
          refine ⟨G, e, plus [p] F, kd, e1, rep1, ek, fun v1 H1 G1 w1 rv1 rep2 s1 k1 av1 => ?_⟩
          have hw := rv1.clean_nil (clean_keyD kd (keyT_D hc.1))
          subst hw
          refine ⟨G1, e1, plus [p] F, vd, e', rep2.le fun a => by unfold plus; simp, evv, fun v2 H2 G2 w2 rv2 rep3 s2 k2 av2 => ⟨G2, w2, rv1.move s2 (fun _ h => nomatch h), rv2, rep3, s1.trans s2, fun a ha => ?_, ?_⟩⟩
          · rw [k2 a (plus_pos' ha), k1 a (plus_pos' ha), f.keep (rep.there ha)]
          · rw [k2 p (plus_pos (List.mem_cons_self ..)), k1 p (plus_pos (List.mem_cons_self ..)), upd_same]
        refine pairTrees_cons_walk (thn (hk.run pins _ σ _ _ I1 key) fun kv s2 ⟨v1, H1, I2, r1, q1⟩ => ?_)
        refine thn (hv.run pins s2 σ H1 _ I2 q1) fun vv s3 ⟨v2, H2, I3, r2, G2, w2, rvk, rvv, rep3, sg, kF, hH⟩ => ?_
        refine pairTrees_nil_walk ?_
        obtain ⟨ks, rfl⟩ := keyT_tup hc.1
        obtain ⟨b, vs, rfl, _⟩ := rvk.tup_inv rep3.same
        cases r1
        have nk : NK X.K G2 (nkOf (.tup ks)) (.ref b) := NK.of_rv rvk (keyT_D hc.1)
        obtain ⟨z1, z2, z4, us, rel, dd⟩ := n_of (xs := []) I3 (.inr ⟨rfl, hH⟩) (fun _ h => nomatch h)
        cases rel
        have hs0 : s.heap.objs.size = p := hp
        refine ⟨[(nkOf (.tup ks), b, vv)], ⟨rfl, rfl, ⟨(nk.keep rep3.same).real I3 rfl, keyT_depth hc.1⟩, trivial⟩, by rw [hs0]; exact dd, fun h' tk dd' hs => ?_⟩
        rw [hs0] at dd' hs ⊢
        have dd' : h'.DictOfH (nestedKind X.prog X.w) p [(nkOf (.tup ks), b, vv)] := dd'
        have he : ∃ q, h'.get? p = some q := let ⟨q, _, _, hq, _⟩ := dd'; ⟨q, hq⟩
        have I4 : Inv X pins σ (upd H2 p (dN X.w p [(nkOf (.tup ks), b, v2)])) { s3 with heap := h', toks := tk } :=
          d_write I3 (by rw [hH]; exact True.intro) hs he (n_okD z1 (by rw [sizeLine_eq]; show 1 ≤ 16777216; omega) (.cons ⟨rfl, rfl, r2⟩ .nil) dd')
        refine wpAny_pure ⟨.ref p, _, I4, rfl, ?_⟩
        have lin : ∀ a, plus w2 (plus [p] F) a ≤ 1 := fun a => by
          obtain ⟨os, _, _, r3⟩ := rep3
          have z : os.count a + plus w2 (plus [p] F) a ≤ 1 := (r3 a).1
          omega
        have hpw : p ∉ w2 := fun h => by
          have z := lin p
          have z2 := count_pos.mp h
          unfold plus at z
          simp at z
          omega
        have hpF : F p = 0 := by
          have z := lin p
          unfold plus at z
          simp at z
          omega
        refine k (.ref p) _ G2 (p :: w2) (.dicN (xs := [(nkOf (.tup ks), b, v2)]) upd_same (List.cons_ne_nil _ _) (by rw [nksOf, nksOf]; rfl) (by rw [List.all_cons, hc.1]; rfl) (fun x hx => ?_) ?_) ?_ sg (fun a ha => ?_) trivial
        · rw [List.mem_singleton] at hx
          subst hx
          exact nk
        · have z := RVs.cons (rvv.move (G' := G2) (H' := upd H2 p (dN X.w p [(nkOf (.tup ks), b, v2)])) (fun _ _ h => h) fun a ha => upd_ne fun e => hpw (by rw [← e]; exact ha)) .nil
          rw [List.append_nil] at z
          exact z
        · exact (rep3.updF pp).le fun a => by unfold plus; rw [List.count_cons, List.count_singleton]; omega
        · rw [upd_ne fun e => by rw [e] at ha; omega]
          exact kF a ha
      · cases ev
end Mp
/-! [a, b[:k], text.replace(one sign, text), c]: behind the slice's number a token is out. -/
namespace Mp
open PySem L2 PyProof.Rows CwR
def PE1 (X : Cx) (e : Expr) (t : TE) : Prop := ∀ (pins : List (Addr × Obj)) (s : Shared) (σ : L2.St) (H : Hp) (Q : VK), Inv X pins σ H s → t σ H Q → wpAny (model X.prog X.w) X.A (eval e X.env) (fun v s' => 1 ≤ s'.toks ∧ EP X pins σ Q v s') X.xe s
theorem pe1_slice {X : Cx} {e : Expr} {te : TE} {r : V → Option Int → Option Int → Hp → VK → Prop} {k : Int} {j : Nat} {p1 p2 pos : Pos} (hr : SlR X r) (he : PE X e te) :
    PE1 X (.Subscript e (.Slice none (some (.Constant (.int k) j p1)) none p2) pos) (fun σ H Q => te σ H fun x H1 => r x none (some k) H1 Q) := by
  intro pins s σ H Q I h
  refine Subscript_ (thn (he.run pins s σ H _ I h) fun v s1 ⟨x, H1, I1, r1, q1⟩ => ?_)
  refine wpAny_Slice ?_
  rw [evalPart_none]
  refine wpAny_pure ?_
  rw [evalPart_some]
  refine wpAny_Constant_int ?_
  refine wpAny_pure ?_
  have I4 : Inv X pins σ H1 { s1 with heap := s1.heap.push { cls := .type "slice", data := .fields #[.none, .int k s1.toks, .none] }, toks := s1.toks + 1 } := I1.kept (t' := s1.toks + 1) fun b ob q => Heap.get?_push_of_some _ q
  obtain ⟨T, id, hT, ht, hg⟩ := hr pins { s1 with heap := s1.heap.push { cls := .type "slice", data := .fields #[.none, .int k s1.toks, .none] }, toks := s1.toks + 1 } σ H1 x v .none (.int k s1.toks) none (some k) s1.heap.objs.size Q I4 r1 (Heap.IsSliceOf.new ..) .none (.int _ _) q1
  refine wpAny_mono (PySem.wpAny_toks (tail_any (ops := [.ref s1.heap.objs.size, v]) ht hT hg (by with_unfolding_all rfl))) (fun v2 s2 q2 => ?_) fun _ _ z => z.2
  obtain ⟨hk, q2⟩ := q2
  have hk : s1.toks + 1 ≤ s2.toks := hk
  exact ⟨by omega, q2⟩
theorem pa_cons1 {X : Cx} {e : Expr} {es : List Expr} {te : TE} {ta : TA} (ha : PE1 X e te) (hr : PAT X es ta) (hs : starEach (e :: es) X.env = (false, eval e X.env) :: starEach es X.env := by rfl) : PA X (e :: es) (tCons te ta) := by
  refine ⟨fun pos pins s σ H Q I h => ?_⟩
  rw [hs]
  show wpAny _ _ (spliced ((false, eval e X.env) :: backTo pos (starEach es X.env))) _ _ s
  refine Calls.spliced_cons (thn (ha pins s σ H _ I h) fun v s1 ⟨hk, x, H1, I1, r1, q1⟩ => ?_)
  exact thn (hr pos pins s1 σ H1 _ hk I1 q1) fun us s2 ⟨xs, H2, I2, r2, q2⟩ => ⟨x :: xs, H2, I2, .cons r1 r2, q2⟩
theorem repl_inv {y z us d : List Nat} (h : semRepl y z (.str us) = some (.str d)) : ∃ c, y = [c] ∧ us.length + (us.length + 1) * z.length ≤ bigLine ∧ d = subL c z us := by
  match y, h with
  | [c], h =>
    have h : (if decide (us.length + (us.length + 1) * z.length ≤ bigLine) = true then some (D.str (us.flatMap fun x => if x = c then z else [x])) else none) = some (.str d) := h
    split at h
    · rename_i hc
      injection h with h
      injection h with h
      exact ⟨c, rfl, of_decide_eq_true hc, h.symm⟩
    · cases h
  | [], h => cases h
  | _ :: _ :: _, h => cases h
section
variable {g : Gam} {X : Cx} {call : CallF} {n : Nat}
theorem l4r_core {σ : L2.St} {H : Hp} {Q : VK} {a b c : ME} {k : Int} {i : Nat} {y z : List Nat} (h : rd X.kw call (.l4r a b k i y z c) σ H Q) :
    tLst (tCons (rd X.kw call a) (tCons (fun σ H Q => rd X.kw call b σ H fun x H1 => rSlA X.K x none (some k) H1 Q) (tCons (tReplC (tVar i) ⟨y.toArray⟩ ⟨z.toArray⟩) (tCons (rd X.kw call c) tNil)))) σ H Q := by
  obtain ⟨G, e, F, d', e', rep, ev, kk⟩ := h
  rw [mev] at ev
  cases ea : mev call a e with
  | no => rw [ea] at ev; cases ev
  | ok d1 e1 =>
    rw [ea, bind_ok] at ev
    cases eb : mev call b e1 with
    | no => rw [eb] at ev; cases ev
    | ok d2 e2 =>
      rw [eb, bind_ok] at ev
      split at ev
      · rename_i xs
        split at ev
        · rename_i hxs
          split at ev
          · rename_i us hg
            split at ev
            · rename_i d3 hd3
              cases ec : mev call c e2 with
              | no => rw [ec] at ev; cases ev
              | ok d4 e4 =>
                rw [ec, bind_ok] at ev
                split at ev
                · cases ev
                  refine rd_bind rep ea fun v1 H1 G1 w1 rv1 rep1 s1 k1 _ => ?_
                  refine rd_bind rep1 eb fun v2 H2 G2 w2 rv2 rep2 s2 k2 _ => ?_
                  refine cut_core (d := .str (cut xs none (some k))) rv2 rep2.same (by show (if xs.length ≤ bigLine then some (D.str (cut xs none (some k))) else none) = _; rw [if_pos hxs]) fun v2' H2' G2' w2' rv2' f2 => ?_
                  have rep2' := (rep2.drop).eff f2
                  obtain ⟨vu, wu, hσ, rvu, _⟩ := rep2'.slot (i := i) (by rw [hg]; exact fun z => nomatch z)
                  rw [hg] at rvu
                  refine ⟨vu, hσ, ⟨us.toArray⟩, rvu.str_inv, ?_, ?_⟩
                  · obtain ⟨cc, rfl, hb, rfl⟩ := repl_inv hd3
                    rw [size_str, size_str]
                    exact hb
                  · have e3 : Txt.replace ⟨us.toArray⟩ ⟨y.toArray⟩ ⟨z.toArray⟩ = ⟨d3.toArray⟩ := by
                      obtain ⟨cc, rfl, hb, rfl⟩ := repl_inv hd3
                      exact replace_sub _ _ _
                    rw [e3]
                    refine rd_bind rep2' ec fun v4 H4 G4 w4 rv4 rep4 s4 k4 _ => ?_
                    refine ⟨by rw [sizeLine_eq]; show 4 ≤ 16777216; omega, fun p hp => ?_⟩
                    have rv2s := rv2'.str_inv
                    have w2n : w2' = [] := by cases rv2'; rfl
                    subst w2n
                    have sg24 : Same G2 G4 := f2.sg.trans s4
                    have h1k : ∀ a ∈ w1, H4 a = H1 a := fun a ha => by
                      rw [k4 a (plus_pos' (plus_pos ha)), f2.keep (rep2.there (plus_pos' (plus_pos ha))), k2 a (plus_pos ha)]
                    have rv1' : RV X.kw G4 H4 v1 d1 w1 := rv1.move (s2.trans sg24) h1k
                    have rvs : RVs X.kw G4 H4 [v1, v2', .str ⟨d3.toArray⟩, v4] [d1, .str (cut xs none (some k)), .str d3, d4] (w1 ++ ([] ++ ([] ++ (w4 ++ [])))) := .cons rv1' (.cons (by rw [rv2s]; exact .str _) (.cons (.str d3) (.cons rv4 .nil)))
                    have f := Eff.layO rep4.same hp (.lst [v1, v2', .str ⟨d3.toArray⟩, v4])
                    refine kk (.ref p) _ G4 (p :: (w1 ++ ([] ++ ([] ++ (w4 ++ []))))) (.own upd_same (rvs.eff f fun a ha => ?_)) ((rep4.eff f).le fun a => ?_) (((s1.trans s2).trans sg24).trans f.sg) (fun a ha => ?_) trivial
                    · simp only [List.nil_append, List.append_nil, List.mem_append] at ha
                      rcases ha with ha | ha
                      · exact rep4.there (plus_pos' (plus_pos' (plus_pos ha)))
                      · exact rep4.there (plus_pos ha)
                    · unfold plus
                      simp only [List.nil_append, List.append_nil, List.count_cons, List.count_append, List.count_nil]
                      omega
                    · rw [f.keep (rep4.there (plus_pos' (plus_pos' (plus_pos' ha)))), k4 a (plus_pos' (plus_pos' ha)), f2.keep (rep2.there (plus_pos' (plus_pos' ha))), k2 a (plus_pos' ha), k1 a ha]
                · cases ev
            · cases ev
          · cases ev
        · cases ev
      · cases ev
theorem pe_l4r (h : Good g X call n) {e1 e2 e4 : Expr} {x : Str} {xp p1 p2 p3 ap c1 c2 p pos : Pos} {j j1 j2 : Nat} {a b c : ME} {k : Int} {i : Nat} {y z : List Nat} (ha : PE X e1 (rd X.kw call a)) (hb : PE X e2 (rd X.kw call b)) (hn : nameB g (.Name x xp) i = true) (hyz : ((⟨y.toArray⟩ : Str) == ⟨z.toArray⟩) = false) (hl : (ap.endLine == p.line) = true) (s1 : notStar e1 = true) (s4 : notStar e4 = true) (hc : PE X e4 (rd X.kw call c)) :
    PE X (.List [e1, .Subscript e2 (.Slice none (some (.Constant (.int k) j p1)) none p2) p3, .Call (.Attribute (.Name x xp) "replace" ap) [.Constant (.str ⟨y.toArray⟩) j1 c1, .Constant (.str ⟨z.toArray⟩) j2 c2] [] p, e4] pos) (rd X.kw call (.l4r a b k i y z c)) := by
  have hp := pet_replC (X := X) (c0 := c1) (c1 := c2) (j := j1) (k := j2) (apos := ap) (pos := p) (pe_nameM (t := tVar i) h hn fun _ _ _ q => q) hyz rfl rfl hl
  have ht := pat_cons (hp) (pat_cons (PET.of hc) pat_nil (star1_of s4)) rfl
  exact Mp.PE.mono (pe_lst (pa_cons ha (pa_cons1 (pe1_slice sl_A hb) ht rfl) (star_of s1))) fun σ H Q q => l4r_core q
end
end Mp
/-! A list that may be changed, read as one that may not, for the time of one expression. -/
namespace Mp
open PySem L2
section
variable {K : KW} {call : CallF} {G G' G2 H H' : Hp} {σ : L2.St} {e e' : Env} {F F' : Fm}
mutual
theorem RV.loose : ∀ {v : V} {d : D} {ws : List Addr}, RV K G H v d ws → Mp.loose d = true → RV K G2 H v d ws
  | _, _, _, .hole v, _ => .hole v
  | _, _, _, .non, _ => .non
  | _, _, _, .bl b, _ => .bl b
  | _, _, _, .int i, _ => .int i
  | _, _, _, .str s, _ => .str s
  | _, _, _, .tup h r, c => by simp [Mp.loose] at c
  | _, _, _, .own h r, c => .own h (RVs.loose r (by simpa [Mp.loose] using c))
  | _, _, _, .frz h r z, c => by simp [Mp.loose] at c
  | _, _, _, .dic h r, c => by simp [Mp.loose] at c
  | _, _, _, .dicF h r z, c => by simp [Mp.loose] at c
  | _, _, _, .dicN h n q z k r, c => by simp [Mp.loose] at c
  | _, _, _, .dicNF h n q z k r y, c => by simp [Mp.loose] at c
theorem RVs.loose : ∀ {vs : List V} {ds : List D} {ws : List Addr}, RVs K G H vs ds ws → looses ds = true → RVs K G2 H vs ds ws
  | _, _, _, .nil, _ => .nil
  | _, _, _, .cons h r, c => by
    rw [looses, Bool.and_eq_true] at c
    exact .cons (RV.loose h c.1) (RVs.loose r c.2)
end
theorem RSl.hide (sg : Same G G') : ∀ {σ : L2.St} {e : List D} {ws : List Addr}, RSl K G H σ e ws → RSl K G' H σ (hideE e) []
  | _, _, _, .nil => .nil
  | _, _, _, .cons (o := o) (d := d) h r => by
    have ih := RSl.hide sg r
    show RSl K G' H _ ((if clean d then d else .hole) :: hideE _) []
    refine RSl.cons (o1 := []) (o2 := []) ?_ ih
    by_cases c : clean d = true
    · rw [if_pos c]
      cases h with
      | none => exact .none
      | some h =>
        have := h.clean_nil c
        subst this
        exact .some (h.move sg fun _ h => nomatch h)
    · rw [if_neg c]
      cases h with
      | none => exact .none
      | some h => exact .some (.hole _)
theorem hideE_len (e : Env) : (hideE e).length = e.length := by unfold hideE; rw [List.length_map]
theorem thaw_core {i : Nat} {m : ME} {Q : VK} (h : rd K call (.thaw i m) σ H Q) : rd K call m σ H Q := by
  obtain ⟨G, e, F, d, e', rep, ev, k⟩ := h
  rw [mev] at ev
  split at ev
  · rename_i d1 e1 em
    split at ev
    · rename_i hc
      rw [Bool.and_eq_true] at hc
      cases ev
      obtain ⟨xs, hg, hcl⟩ : ∃ xs, get e i = .lst true xs ∧ cleans xs = true := by
        have z := hc.2
        unfold ownC at z
        split at z
        · rename_i q; exact ⟨_, q, z⟩
        · cases z
      obtain ⟨os, r1, r2, r3⟩ := rep
      have hi : i < e.length := lt_of_get (by rw [hg]; exact fun z => nomatch z)
      obtain ⟨o, o1, o2, h1, h2, h3, h4⟩ := r1.at i hi
      rw [hg] at h2
      cases h2 with
      | some h2 =>
        cases h2 with
        | @own a vs _ ws' hH rv =>
          have := rv.clean_nil hcl
          subst this
          have ca : os.count a = 1 ∧ F a = 0 := by
            have z1 := h3 a
            have z2 : os.count a + F a ≤ 1 := (r3 a).1
            rw [List.count_cons_self] at z1
            omega
          have z := (r3 a).2 (by show 0 < os.count a + F a; omega)
          have sg : Same G (upd G a (.lst vs)) := fun b o hb => by
            rw [upd_ne (fun q => by rw [q, z.1] at hb; cases hb)]
            exact hb
          have hid := RSl.hide sg r1
          obtain ⟨o', p1, p2, g1, g2, g3, g4⟩ := hid.at i (by rw [hideE_len]; exact hi)
          obtain ⟨os', q1, q2⟩ := g4 (some (.ref a)) (.lst false (frzs xs)) [] (.some (.frz (.of upd_same) (rv.freeze sg fun _ h => nomatch h) rfl))
          rw [set_same h1] at q1
          have n2 : ∀ b, os'.count b = 0 := fun b => by
            have y1 := q2 b
            have y2 := g3 b
            simp at y1 y2
            omega
          let F1 : Fm := fun b => if b = a then 0 else os.count b + F b
          have rep1 : Rep K σ H (upd G a (.lst vs)) ((hideE e).set i (.lst false (frzs xs))) F1 := by
            refine ⟨os', q1, fun b o hb => ?_, fun b => ?_⟩
            · by_cases q : b = a
              · subst q
                rw [upd_same] at hb
                rw [hH]
                exact hb
              · rw [upd_ne q] at hb
                exact r2 b o hb
            · show os'.count b + F1 b ≤ 1 ∧ (0 < os'.count b + F1 b → _)
              rw [n2 b, Nat.zero_add]
              by_cases q : b = a
              · have e0 : F1 b = 0 := if_pos q
                rw [e0]
                exact ⟨by omega, fun q => by omega⟩
              · have e0 : F1 b = os.count b + F b := if_neg q
                rw [e0, upd_ne q]
                exact r3 b
          have hf : frz (get e i) = .lst false (frzs xs) := by rw [hg, Mp.frz]
          rw [hf] at em
          refine ⟨_, _, F1, _, _, rep1, em, fun v H' G' ws rvd rep' s1 k1 av => ?_⟩
          obtain ⟨os2, t1, t2, t3⟩ := rep'
          have gA : G' a = some (.lst vs) := s1 a _ upd_same
          have hA : H' a = some (.lst vs) := t2 a _ gA
          have nws : ws.count a = 0 := by
            rcases Nat.eq_zero_or_pos (ws.count a) with y | y
            · exact y
            · have := ((t3 a).2 (by show 0 < os2.count a + plus ws F1 a; unfold plus; omega)).1
              rw [gA] at this
              cases this
          have ks : ∀ b ∈ os, H' b = H b := fun b hb => by
            by_cases q : b = a
            · subst q
              rw [hA, hH]
            · refine k1 b ?_
              show 0 < (if b = a then 0 else os.count b + F b)
              rw [if_neg q]
              have := count_pos.mp hb
              omega
          let G3 : Hp := fun b => if b = a then none else G' b
          have s3 : Same G G3 := fun b o hb => by
            have nb : b ≠ a := fun q => by rw [q, z.1] at hb; cases hb
            show (if b = a then none else G' b) = some o
            rw [if_neg nb]
            exact s1 b o (sg b o hb)
          refine k v H' G3 ws (rvd.loose hc.1) ⟨os, r1.move s3 ks, fun b o hb => ?_, fun b => ?_⟩ s3 (fun b hb => ?_) trivial
          · have hb : (if b = a then none else G' b) = some o := hb
            split at hb
            · cases hb
            · exact t2 b o hb
          · show os.count b + (ws.count b + F b) ≤ 1 ∧ (0 < os.count b + (ws.count b + F b) → G3 b = none ∧ H' b ≠ none)
            by_cases q : b = a
            · subst q
              refine ⟨by omega, fun _ => ⟨if_pos rfl, by rw [hA]; exact fun y => nomatch y⟩⟩
            · have y : os2.count b + (ws.count b + F1 b) ≤ 1 ∧ (0 < os2.count b + (ws.count b + F1 b) → G' b = none ∧ H' b ≠ none) := t3 b
              have e0 : F1 b = os.count b + F b := if_neg q
              rw [e0] at y
              refine ⟨by omega, fun p => ?_⟩
              obtain ⟨y1, y2⟩ := y.2 (by omega)
              exact ⟨by show (if b = a then none else G' b) = none; rw [if_neg q]; exact y1, y2⟩
          · refine k1 b ?_
            show 0 < (if b = a then 0 else os.count b + F b)
            rw [if_neg (fun q => by rw [q] at hb; omega)]
            omega
    · cases ev
  · cases ev
end
end Mp
/-! Every expression, by its own shape. -/
namespace Mp
open PySem L2
section
variable {call : CallF}
theorem Good.inner {g : Gam} {X : Cx} {n : Nat} (h : Good g X call n) (scope : Scope) (s : Shared) (H : Hp) (C : Addr) (cl : List (Str × Addr)) (fp : List Addr) : Good (inner g scope) (X.blk s H scope (compEnvC scope cl C X.env) fp) call n :=
  ⟨h.N, h.nd, by show relS scope X.env.scope = relS scope g.sc; rw [h.sc], rfl, h.calm, rfl, h.room, h.bl, h.cs, h.fns⟩
theorem set_of {e : Expr} {env : PySem.Env} (h : notSet e = true) (x : Value) : foldedSetIterable e env x = pure x := by
  cases e <;> first
    | rfl
    | (cases h; done)
abbrev PEr (X : Cx) (call : CallF) (e : Expr) (m : ME) : Prop := PE X e (rd X.kw call m) ∧ (tOk e m = true → L2.PT X e (rdT X.kw call m)) ∧ (∀ op vs p, e = .BoolOp op vs p → tOk e m = true → L2.PW X e (rdT X.kw call m))
theorem bo_leaf {e : Expr} {m : ME} {P : Prop} (h : leafE e = true) : ∀ op vs p, e = .BoolOp op vs p → P := fun op vs p q => by
  subst q; cases h
theorem per_leaf {X : Cx} {e : Expr} {m : ME} (hp : PE X e (rd X.kw call m)) (ht : tOk e m = leafE e) (hc : leafE e = true → L2.PT X e (rdT X.kw call m)) : PEr X call e m := ⟨hp, fun t => hc (by rw [← ht]; exact t), fun op vs p q t => bo_leaf (m := m) (by rw [← ht]; exact t) op vs p q⟩
theorem own_names (g : Gam) (own : List Nat) : (ownOf g own).map (·.2) = own := by
  unfold ownOf
  rw [List.map_map]
  exact List.map_id _
theorem name_leaf {g : Gam} {X : Cx} {i : Nat} {e : Expr} {m : ME} (hn : nameB g e i = true) (ht : tOk e m = leafE e) (hp : PE X e (rd X.kw call m)) : PEr X call e m := per_leaf hp ht fun l => pt_leaf hp l fun l ops cs p q => by
  subst q; cases hn
theorem PTs.mono {X : Cx} {es : List Expr} {t u : TT} (h : L2.PTs X es t) (k : ∀ σ H Q, u σ H Q → t σ H Q) : L2.PTs X es u := ⟨fun pins s σ H Q I q => h.run pins s σ H Q I (k σ H Q q)⟩
theorem rdT_yes {K : KW} {σ : L2.St} {H : Hp} {Q : Bool → Hp → Prop} (h : rdT K call (.c (.bl true)) σ H Q) : Q true H := by
  obtain ⟨G, e, F, k, e', rep, ev, q⟩ := h
  cases ev
  exact q H G rep (fun _ _ h => h) fun _ _ => rfl
mutual
theorem sndE : ∀ (m : ME) {g : Gam} {X : Cx} {n : Nat} {e : Expr}, Good g X call n → chkE g e m = true → PEr X call e m
  | .c d, g, X, n, e, h, ck => by
    unfold chkE at ck
    have hp := pe_const (X := X) (call := call) ck
    refine per_leaf hp rfl fun l => pt_leaf hp l fun l ops cs p q => ?_
    subst q; cases ck
  | .dnew, g, X, n, e, h, ck => by
    unfold chkE at ck
    split at ck
    · exact per_leaf pe_dnewM rfl fun l => by cases l
    · cases ck
  | .d1 k v, g, X, n, e, h, ck => by
    unfold chkE at ck
    split at ck
    · rw [Bool.and_eq_true] at ck
      exact per_leaf (pe_d1M h.u (sndE k h ck.1).1 (sndE v h ck.2).1) rfl fun l => by cases l
    · cases ck
  | .thaw i m, g, X, n, e, h, ck => by
    unfold chkE at ck
    rw [Bool.and_eq_true] at ck
    have hp : PE X e (rd X.kw call (.thaw i m)) := Mp.PE.mono (sndE m h ck.2).1 fun σ H Q q => thaw_core q
    exact per_leaf hp rfl fun l => pt_leaf hp l fun l ops cs p q => by
      subst q
      cases ck.1
  | .l4r a b k i y z c, g, X, n, e, h, ck => by
    unfold chkE at ck
    split at ck
    · simp only [Bool.and_eq_true, beq_iff_eq, decide_eq_true_eq, Bool.not_eq_true'] at ck
      obtain ⟨h1, h2, rfl, hn, rfl, rfl, rfl, hyz, hl, s1, s4, h4⟩ := ck
      exact per_leaf (pe_l4r h (sndE a h h1).1 (sndE b h h2).1 hn hyz (by simpa using hl) s1 s4 (sndE c h h4).1) rfl fun l => by cases l
    · cases ck
  | .gc y d, g, X, n, e, h, ck => by
    unfold chkE at ck
    split at ck
    · rename_i x pos
      simp only [Bool.and_eq_true, decide_eq_true_eq] at ck
      obtain ⟨rfl, h1, h2, h3⟩ := ck
      have hp := pe_gcM h h1 h2 h3 (call := call) (pos := pos)
      exact per_leaf hp rfl fun l => pt_leaf hp l fun l ops cs p q => by cases q
    · cases ck
  | .cp i, g, X, n, e, h, ck => by
    unfold chkE at ck
    exact name_leaf ck rfl (pe_cp h ck)
  | .sh i, g, X, n, e, h, ck => by
    unfold chkE at ck
    exact name_leaf ck rfl (pe_shM h ck)
  | .mv i, g, X, n, e, h, ck => by
    unfold chkE at ck
    exact name_leaf ck rfl (pe_mvM h ck)
  | .bw i, g, X, n, e, h, ck => by
    unfold chkE at ck
    exact name_leaf ck rfl (pe_lentM h ck (fun e => by rw [mev]) fun σ v hv => hv)
  | .bm i, g, X, n, e, h, ck => by
    unfold chkE at ck
    exact name_leaf ck rfl (pe_lentM h ck (fun e => by rw [mev]) fun σ v hv => hv)
  | .op o as, g, X, n, e, h, ck => by
    unfold chkE at ck
    split at ck
    · rename_i es ho
      rw [Bool.and_eq_true] at ck
      have hs := sndEs as h ck.2
      have hp := pe_opM h ho ck.1 hs
      refine per_leaf hp rfl fun l => ?_
      cases e <;> first
        | exact pt_opM h ho ck.1 hs
        | exact pt_leaf hp l fun l ops cs p q => by cases q
    · cases ck
  | .dsp t as, g, X, n, e, h, ck => by
    unfold chkE at ck
    split at ck
    · simp only [Bool.and_eq_true] at ck
      obtain ⟨rfl, h1, h2⟩ := ck
      exact per_leaf (pe_dspT (sndEs as h h2) h1) rfl fun l => by cases l
    · simp only [Bool.and_eq_true, Bool.not_eq_true'] at ck
      obtain ⟨rfl, h1, h2⟩ := ck
      exact per_leaf (pe_dspL (sndEs as h h2) h1) rfl fun l => by cases l
    · cases ck
  | .and a b, g, X, n, e, h, ck => by
    unfold chkE at ck
    split at ck
    · rename_i x y rest p
      rw [Bool.and_eq_true] at ck
      obtain ⟨a1, a2, a3⟩ := sndE a h ck.1
      match rest, ck.2 with
      | [], c2 =>
        obtain ⟨b1, b2, b3⟩ := sndE b h c2
        have key : tOk (.BoolOp .And [x, y] p) (.and a b) = true → L2.PW X (.BoolOp .And [x, y] p) (rdT X.kw call (.and a b)) := fun t => by
          unfold tOk at t; rw [Bool.and_eq_true] at t
          exact PW.mono (pw_and (a2 t.1) (pw_and1 (b2 t.2))) fun σ H Q q => andT_core q
        exact ⟨Mp.PE.mono (pe_and a1 (pe_one b1)) fun σ H Q q => and_core q, fun t => (key t).pt, fun _ _ _ _ t => key t⟩
      | z :: r, c2 =>
        obtain ⟨b1, b2, b3⟩ := sndE b h c2
        have key : tOk (.BoolOp .And (x :: y :: z :: r) p) (.and a b) = true → L2.PW X (.BoolOp .And (x :: y :: z :: r) p) (rdT X.kw call (.and a b)) := fun t => by
          unfold tOk at t; rw [Bool.and_eq_true] at t
          exact PW.mono (pw_and (a2 t.1) (b3 _ _ _ rfl t.2)) fun σ H Q q => andT_core q
        exact ⟨Mp.PE.mono (pe_and a1 b1) fun σ H Q q => and_core q, fun t => (key t).pt, fun _ _ _ _ t => key t⟩
    · cases ck
  | .or a b, g, X, n, e, h, ck => by
    unfold chkE at ck
    split at ck
    · rename_i x y rest p
      rw [Bool.and_eq_true] at ck
      obtain ⟨a1, a2, a3⟩ := sndE a h ck.1
      match rest, ck.2 with
      | [], c2 =>
        obtain ⟨b1, b2, b3⟩ := sndE b h c2
        have key : tOk (.BoolOp .Or [x, y] p) (.or a b) = true → L2.PW X (.BoolOp .Or [x, y] p) (rdT X.kw call (.or a b)) := fun t => by
          unfold tOk at t; rw [Bool.and_eq_true] at t
          exact PW.mono (pw_or (a2 t.1) (pw_or1 (b2 t.2))) fun σ H Q q => orT_coreT q
        exact ⟨Mp.PE.mono (pe_or a1 (pe_one b1)) fun σ H Q q => or_core q, fun t => (key t).pt, fun _ _ _ _ t => key t⟩
      | z :: r, c2 =>
        obtain ⟨b1, b2, b3⟩ := sndE b h c2
        have key : tOk (.BoolOp .Or (x :: y :: z :: r) p) (.or a b) = true → L2.PW X (.BoolOp .Or (x :: y :: z :: r) p) (rdT X.kw call (.or a b)) := fun t => by
          unfold tOk at t; rw [Bool.and_eq_true] at t
          exact PW.mono (pw_or (a2 t.1) (b3 _ _ _ rfl t.2)) fun σ H Q q => orT_coreT q
        exact ⟨Mp.PE.mono (pe_or a1 b1) fun σ H Q q => or_core q, fun t => (key t).pt, fun _ _ _ _ t => key t⟩
    · cases ck
  | .orT a b, g, X, n, e, h, ck => by
    unfold chkE at ck
    split at ck
    · rw [Bool.and_eq_true] at ck
      exact per_leaf (Mp.PE.mono (pe_orT (sndE a h ck.1).1 (pe_one (sndE b h ck.2).1)) fun σ H Q q => orT_core q) rfl fun l => by cases l
    · cases ck
  | .not a, g, X, n, e, h, ck => by
    unfold chkE at ck
    split at ck
    · obtain ⟨a1, a2, a3⟩ := sndE a h ck
      refine ⟨Mp.PE.mono (pe_not a1) fun σ H Q q => not_core q, fun t => ?_, fun _ _ _ q => by cases q⟩
      unfold tOk at t
      exact PT.mono (pt_not (a2 t)) fun σ H Q q => notT_core q
    · cases ck
  | .ife c a b, g, X, n, e, h, ck => by
    unfold chkE at ck
    split at ck
    · simp only [Bool.and_eq_true] at ck
      obtain ⟨h1, h2, h3, h4⟩ := ck
      exact per_leaf (Mp.PE.mono (pe_ifExp ((sndE c h h1).2.1 h2) (sndE a h h3).1 (sndE b h h4).1) fun σ H Q q => ife_core q) rfl fun l => by cases l
    · cases ck
  | .chain p q a b c, g, X, n, e, h, ck => by
    unfold chkE at ck
    split at ck
    · simp only [Bool.and_eq_true, decide_eq_true_eq] at ck
      obtain ⟨h1, h2, h3, h4, h5⟩ := ck
      obtain ⟨r, p1, p2, p3, p4, p5⟩ := cmp_rule h h1
      obtain ⟨r', q1, q2, q3, q4, q5⟩ := cmp_rule h h2
      have ea := (sndE a h h3).1
      have eb := (sndE b h h4).1
      have ec := (sndE c h h5).1
      exact per_leaf (Mp.PE.mono (pe_chain p1 q1 ea eb ec (lastMarks_of q3 q4)) fun σ H Q q => chain_core p2 q2 q) rfl fun l =>
        PT.mono (pt_chain p1 q1 ea eb ec (lastMarks_of q3 q4)) fun σ H Q q => chain_core p2 q2 (rdT_bl q (chain_bl q5))
    · cases ck
  | .call f as, g, X, n, e, h, ck => by
    unfold chkE at ck
    split at ck
    · rename_i x p es pos
      simp only [Bool.and_eq_true, decide_eq_true_eq] at ck
      obtain ⟨h1, h2, h3, h4, h5⟩ := ck
      have hp := pe_callM (p := p) (pos := pos) h h1 h2 h3 h4 (sndEs as h h5)
      exact per_leaf hp rfl fun l => pt_leaf hp l fun l ops cs p q => by cases q
    · cases ck
  | .lc own tg mi cond elt, g, X, n, e, h, ck => by
    unfold chkE at ck
    split at ck
    · rename_i el t it ifs k scope p
      simp only [Bool.and_eq_true, decide_eq_true_eq] at ck
      obtain ⟨⟨rfl, nd, hin, htn⟩, hb, hst, hi, ht, hc, he⟩ := ck
      have ok : BlkOk X.N X.env.scope scope (ownOf g own) := by rw [h.N, h.sc]; exact blkOk_by hb
      have htt : ∀ (s : Shared) (H : Hp) (C : Addr) (cl : List (Str × Addr)) (fp : List Addr), L2.PTs (X.blk s H scope (compEnvC scope cl C X.env) fp) ifs (rdT X.kw call cond) := fun s H C cl fp => by
        match ifs, hc with
        | [], hc =>
          have hc : isBlTrue cond = true := hc
          unfold isBlTrue at hc
          split at hc
          · exact PTs.mono pts_nil fun σ H Q q => rdT_yes q
          · cases hc
        | [c], hc =>
          have hc : (chkE (inner g scope) c cond && tOk c cond) = true := hc
          rw [Bool.and_eq_true] at hc
          exact pts_one ((sndE cond (h.inner scope s H C cl fp) hc.1).2.1 hc.2)
      have hel : ∀ (s : Shared) (H : Hp) (C : Addr) (cl : List (Str × Addr)) (fp : List Addr), PE (X.blk s H scope (compEnvC scope cl C X.env) fp) el (rd X.kw call elt) := fun s H C cl fp => (sndE elt (h.inner scope s H C cl fp) he).1
      have hgg : ∀ (s : Shared) (H : Hp) (C : Addr) (cl : List (Str × Addr)) (fp : List Addr), L2.PG (X.blk s H scope (compEnvC scope cl C X.env) fp) t (gT X.K tg) := fun s H C cl fp => pg_M (h.inner scope s H C cl fp) ht
      have z := pe_lc (X := X) (pos := p) h.calm (by rw [h.N]; exact h.nd) (sndI mi h hi htn) ok hgg htt hel (set_of hst)
      rw [own_names] at z
      exact per_leaf (Mp.PE.mono z fun σ H Q q => lc_coreM nd hin q) rfl fun l => by cases l
    · cases ck
theorem sndEs : ∀ (as : MEs) {g : Gam} {X : Cx} {n : Nat} {es : List Expr}, Good g X call n → chkEs g es as = true → PEs X call es as
  | .nil, g, X, n, es, h, ck => by
    unfold chkEs at ck
    match es, ck with
    | [], _ => trivial
  | .cons a r, g, X, n, es, h, ck => by
    unfold chkEs at ck
    split at ck
    · rw [Bool.and_eq_true] at ck
      exact ⟨(sndE a h ck.1).1, sndEs r h ck.2⟩
    · cases ck
theorem sndI : ∀ (mi : MI) {g : Gam} {X : Cx} {n : Nat} {e tg : Expr}, Good g X call n → chkI g e mi = true → tupNeed mi tg = true → L2.PI X tg e (rdI X.kw call mi)
  | .rng1 m, g, X, n, e, tg, h, ck, _ => by
    unfold chkI at ck
    split at ck
    · simp only [Bool.and_eq_true, beq_iff_eq] at ck
      obtain ⟨rfl, h1, h2, h3⟩ := ck
      obtain ⟨k1, k2, _, _⟩ := h.blt h1
      exact PI.mono (pi_range1 k1 k2 (pa_ofM (as := .cons m .nil) ⟨(sndE m h h3).1, trivial⟩ (by simp [h2])) (star1_of h2)) fun σ H Q q => rng1_core q
    · cases ck
  | .rng2 m o, g, X, n, e, tg, h, ck, _ => by
    unfold chkI at ck
    split at ck
    · simp only [Bool.and_eq_true, beq_iff_eq] at ck
      obtain ⟨rfl, h1, h2, h3, h4, h5⟩ := ck
      obtain ⟨k1, k2, _, _⟩ := h.blt h1
      exact PI.mono (pi_range2 k1 k2 (pa_ofM (as := .cons m (.cons o .nil)) ⟨(sndE m h h4).1, (sndE o h h5).1, trivial⟩ (by simp [h2, h3])) ((star_of h2).trans (by rw [star1_of h3])) (star1_of h3)) fun σ H Q q => rng2_core q
    · cases ck
  | .seq m, g, X, n, e, tg, h, ck, _ => by
    unfold chkI at ck
    have hp := (sndE m h ck).1
    exact PI.mono (PI.or (PI.or (pi_list hp) (pi_tup hp)) (pi_str hp)) fun σ H Q q => seq_core q
  | .enum m, g, X, n, e, tg, h, ck, ht => by
    unfold chkI at ck
    split at ck
    · simp only [Bool.and_eq_true, beq_iff_eq] at ck
      obtain ⟨rfl, h1, h2, h3⟩ := ck
      obtain ⟨k1, k2, _, _⟩ := h.blt h1
      have ht : isTupE tg = true := ht
      cases tg <;> first
        | exact PI.mono (pi_enum k1 k2 (pa_ofM (as := .cons m .nil) ⟨(sndE m h h3).1, trivial⟩ (by simp [h2])) (star1_of h2)) fun σ H Q q => enum_core q
        | cases ht
    · cases ck
  | .zip m o, g, X, n, e, tg, h, ck, _ => by unfold chkI at ck; cases ck
end
end
end Mp
/-! What is changed in place. -/
namespace Mp
open PySem L2
section
variable {K : KW} {G H : Hp} {σ : L2.St} {e : Env} {F : Fm}
theorem mut_core {i : Nat} {a : Addr} {ws1 ws w' : List Addr} {d' : D} {o' : HO} (hσ : σ[i]? = some (some (.ref a))) (take : Rep K σ H G (e.set i .hole) (plus (a :: ws1) (plus ws F))) (hw : ∀ b, w'.count b ≤ ws1.count b + ws.count b)
    (new : (∀ b ∈ w', upd H a o' b = H b) → RV K G (upd H a o') (.ref a) d' (a :: w')) : Rep K σ (upd H a o') G (e.set i d') F ∧ ∀ b, 0 < F b → upd H a o' b = H b := by
  have lin : ∀ b, plus (a :: ws1) (plus ws F) b ≤ 1 := fun b => by
    obtain ⟨os, _, _, r3⟩ := take
    have z : os.count b + plus (a :: ws1) (plus ws F) b ≤ 1 := (r3 b).1
    omega
  have la := lin a
  have hla : ws1.count a = 0 ∧ ws.count a = 0 ∧ F a = 0 := by
    unfold plus at la
    rw [List.count_cons_self] at la
    refine ⟨?_, ?_, ?_⟩ <;> omega
  have kF : ∀ b, 0 < F b → upd H a o' b = H b := fun b hb => upd_ne fun z => by rw [z] at hb; omega
  refine ⟨?_, kF⟩
  have r2 := take.updF (D := a) (o := o') (plus_pos (List.mem_cons_self ..))
  have rv := new fun b hb => upd_ne fun z => by
    rw [z] at hb
    have := count_pos.mp hb
    have := hw a
    omega
  have r3 : Rep K σ (upd H a o') G (e.set i .hole) (plus (a :: w') F) := r2.le fun b => by
    have := hw b
    unfold plus
    rw [List.count_cons, List.count_cons]
    omega
  have r4 := r3.put hσ rv
  rw [List.set_set] at r4
  exact r4
theorem RVs.set : ∀ {vs : List V} {ds : List D} {ws1 : List Addr} {j : Nat} {v : V} {d : D} {ws : List Addr}, RVs K G H vs ds ws1 → RV K G H v d ws → ∃ w', RVs K G H (vs.set j v) (ds.set j d) w' ∧ ∀ b, w'.count b ≤ ws1.count b + ws.count b
  | _, _, _, j, v, d, ws, .nil, rv => ⟨[], .nil, fun b => by simp⟩
  | _, _, _, 0, v, d, ws, .cons (o1 := o1) (o2 := o2) h1 h2, rv => ⟨ws ++ o2, .cons rv h2, fun b => by rw [List.count_append, List.count_append]; omega⟩
  | _, _, _, j + 1, v, d, ws, .cons (o1 := o1) (o2 := o2) h1 h2, rv => by
    obtain ⟨w', h, k⟩ := RVs.set (j := j) h2 rv
    refine ⟨o1 ++ w', .cons h1 h, fun b => ?_⟩
    have := k b
    rw [List.count_append, List.count_append]
    omega
theorem RVs.ins : ∀ {vs : List V} {ds : List D} {ws1 : List Addr} {j : Nat} {v : V} {d : D} {ws : List Addr}, RVs K G H vs ds ws1 → RV K G H v d ws → ∃ w', RVs K G H (vs.take j ++ v :: vs.drop j) (ds.take j ++ d :: ds.drop j) w' ∧ ∀ b, w'.count b ≤ ws1.count b + ws.count b
  | _, _, _, j, v, d, ws, .nil, rv => ⟨ws ++ [], by simpa using RVs.cons rv .nil, fun b => by simp⟩
  | _, _, _, 0, v, d, ws, .cons (o1 := o1) (o2 := o2) h1 h2, rv => ⟨ws ++ (o1 ++ o2), by simpa using RVs.cons rv (.cons h1 h2), fun b => by rw [List.count_append, List.count_append]; omega⟩
  | _, _, _, j + 1, v, d, ws, .cons (o1 := o1) (o2 := o2) h1 h2, rv => by
    obtain ⟨w', h, k⟩ := RVs.ins (j := j) h2 rv
    refine ⟨o1 ++ w', by simpa using RVs.cons h1 h, fun b => ?_⟩
    have := k b
    rw [List.count_append, List.count_append]
    omega
/-- in its place, or at the end -/
def putF : List (Key × V) → Int → V → List (Key × V)
  | [], k, v => [(.inl k, v)]
  | p :: r, k, v => if p.1 = .inl k then (p.1, v) :: r else p :: putF r k v
theorem cnt_none : ∀ {kvs : List (Key × V)} {k : Int}, cntI (kvs.map fun p => keyV p.1) k = 0 → (∀ p ∈ kvs, ¬ p.1 = (Sum.inl k : Key))
  | [], k, _ => fun p hp => nomatch hp
  | q :: r, k, h => fun p hp => by
    obtain ⟨q1, q2⟩ := q
    have hr : cntI (r.map fun p => keyV p.1) k = 0 ∧ ¬ q1 = (Sum.inl k : Key) := by
      cases q1 with
      | inl j =>
        have h : (if j = k then 1 else 0) + cntI (r.map fun p => keyV p.1) k = 0 := h
        split at h
        · omega
        · rename_i hj
          exact ⟨by omega, fun z => hj (Sum.inl.inj z)⟩
      | inr s =>
        have h : cntI (r.map fun p => keyV p.1) k = 0 := h
        exact ⟨h, fun z => nomatch z⟩
    rcases List.mem_cons.mp hp with rfl | hp
    · exact hr.2
    · exact cnt_none hr.1 p hp
theorem map_none {r : List (Key × V)} {k : Key} {v : V} (h : ∀ p ∈ r, ¬ p.1 = k) : r.map (fun kv => if kv.1 = k then (kv.1, v) else kv) = r := by
  conv => rhs; rw [← List.map_id r]
  exact List.map_congr_left fun p hp => by rw [if_neg (h p hp)]; rfl
theorem putF_eq : ∀ {kvs : List (Key × V)} {k : Int} {v : V}, cntI (kvs.map fun p => keyV p.1) k ≤ 1 → putK kvs (.inl k) v = putF kvs k v
  | [], k, v, _ => rfl
  | q :: r, k, v, h => by
    obtain ⟨q1, q2⟩ := q
    by_cases e : q1 = (.inl k : Key)
    · subst e
      have h : (if k = k then 1 else 0) + cntI (r.map fun p => keyV p.1) k ≤ 1 := h
      rw [if_pos rfl] at h
      have hn := cnt_none (kvs := r) (k := k) (by omega)
      unfold putK putF
      rw [if_pos (by simp), if_pos rfl, List.map_cons, map_none hn, if_pos rfl]
    · have h2 : cntI (r.map fun p => keyV p.1) k ≤ 1 := by
        cases q1 with
        | inl j =>
          have h : (if j = k then 1 else 0) + cntI (r.map fun p => keyV p.1) k ≤ 1 := h
          omega
        | inr s => exact h
      have ih := putF_eq (v := v) h2
      unfold putF
      rw [if_neg e, ← ih]
      unfold putK
      by_cases ha : (r.any fun kv => decide (kv.1 = (.inl k : Key))) = true
      · rw [if_pos ha, if_pos (by rw [List.any_cons, ha, Bool.or_true]), List.map_cons, if_neg e]
      · rw [if_neg ha, if_neg (by rw [List.any_cons, decide_eq_false e, Bool.false_or]; exact ha)]
        rfl
theorem putF_RVs : ∀ {kvs : List (Key × V)} {ds : List D} {ws1 : List Addr} {k : Int} {v : V} {d : D} {ws : List Addr}, RVs K G H (kvs.map (·.2)) ds ws1 → RV K G H v d ws → (allInt (kvs.map fun p => keyV p.1)).isSome = true →
    ∃ w', RVs K G H ((putF kvs k v).map (·.2)) (putD (kvs.map fun p => keyV p.1) ds k d).2 w' ∧ (putF kvs k v).map (fun p => keyV p.1) = (putD (kvs.map fun p => keyV p.1) ds k d).1 ∧ ∀ b, w'.count b ≤ ws1.count b + ws.count b
  | [], _, _, k, v, d, ws, .nil, rv, _ => ⟨ws ++ [], .cons rv .nil, rfl, fun b => by simp⟩
  | q :: r, _, _, k, v, d, ws, .cons (ds := ds) (d := d0) (o1 := o1) (o2 := o2) h1 h2, rv, ha => by
    obtain ⟨q1, q2⟩ := q
    cases q1 with
    | inr s => cases ha
    | inl j =>
      have ha2 : (allInt (r.map fun p => keyV p.1)).isSome = true := by
        have z : ((allInt (r.map fun p => keyV p.1)).map (j :: ·)).isSome = true := ha
        rw [Option.isSome_map] at z
        exact z
      show ∃ w', RVs K G H ((putF ((.inl j, q2) :: r) k v).map (·.2)) (putD (.int j :: r.map fun p => keyV p.1) (d0 :: ds) k d).2 w' ∧ _ = (putD (.int j :: r.map fun p => keyV p.1) (d0 :: ds) k d).1 ∧ _
      unfold putF putD
      by_cases e : j = k
      · subst e
        rw [if_pos rfl, if_pos rfl]
        exact ⟨ws ++ o2, .cons rv h2, rfl, fun b => by rw [List.count_append, List.count_append]; omega⟩
      · rw [if_neg (fun z => e (Sum.inl.inj z)), if_neg e]
        obtain ⟨w', p1, p2, p3⟩ := putF_RVs (k := k) h2 rv ha2
        refine ⟨o1 ++ w', .cons h1 p1, ?_, fun b => ?_⟩
        · show keyV (.inl j) :: _ = _
          rw [p2]
          rfl
        · have := p3 b
          rw [List.count_append, List.count_append]
          omega
theorem RV.nest_own {v : V} {ks xs : List D} {ws : List Addr} (h : RV K G H v (.dic true ks xs) ws) (hk : ks.all keyT = true) :
    ∃ a ys ws1, v = .ref a ∧ ws = a :: ws1 ∧ IsN K.w H a ys ∧ (∀ x ∈ ys, NK K.K G x.1 (.ref x.2.1)) ∧ ys.map (·.1) = nksOf ks ∧ RVs K G H (ys.map (·.2.2)) xs ws1 := by
  cases h with
  | @dic a kvs _ ws1 h r =>
    have e : kvs = [] := by
      cases kvs with
      | nil => rfl
      | cons p r =>
        rw [List.map_cons, List.all_cons, Bool.and_eq_true] at hk
        obtain ⟨k, v⟩ := p
        cases k <;> simp [keyV, keyT] at hk
    subst e
    exact ⟨a, [], ws1, rfl, rfl, .inr ⟨rfl, h⟩, fun _ h => (nomatch h), by rw [List.map_nil, List.map_nil, nksOf], r⟩
  | dicN h n e c q r => exact ⟨_, _, _, rfl, rfl, .inl h, q, e, r⟩
theorem putX_RVs {b : Addr} : ∀ {ys : List (NestedKey × Addr × V)} {ks vs : List D} {ws1 : List Addr} {kd : D} {v : V} {d : D} {ws : List Addr}, RVs K G H (ys.map (·.2.2)) vs ws1 → RV K G H v d ws → ys.map (·.1) = nksOf ks → ks.all keyT = true → keyT kd = true →
    ∃ w', RVs K G H ((putX ys (nkOf kd) b v).map (·.2.2)) (putN ks vs kd d).2 w' ∧ (putX ys (nkOf kd) b v).map (·.1) = nksOf (putN ks vs kd d).1 ∧ (putN ks vs kd d).1.all keyT = true ∧ putX ys (nkOf kd) b v ≠ [] ∧ ∀ b, w'.count b ≤ ws1.count b + ws.count b
  | [], ks, vs, ws1, kd, v, d, ws, r, rv, e, c, hk => by
    cases r
    cases ks with
    | nil => exact ⟨ws ++ [], .cons rv .nil, by unfold putN; rw [nksOf, nksOf]; rfl, by unfold putN; rw [List.all_cons, hk]; rfl, List.cons_ne_nil _ _, fun b => by simp⟩
    | cons k ks => rw [nksOf] at e; cases e
  | y :: ys, ks, vs, ws1, kd, v, d, ws, r, rv, e, c, hk => by
    cases r with
    | @cons _ _ d0 vs o1 o2 h1 h2 =>
    cases ks with
    | nil => rw [nksOf] at e; cases e
    | cons k ks =>
      rw [nksOf, List.map_cons] at e
      injection e with e1 e2
      rw [List.all_cons, Bool.and_eq_true] at c
      unfold putX putN
      by_cases z : sameN k kd = true
      · rw [if_pos z, if_pos (by rw [e1]; exact sameN_iff.mp z)]
        refine ⟨ws ++ o2, .cons rv h2, by rw [nksOf, List.map_cons, e1, e2], by rw [List.all_cons, c.1, c.2]; rfl, List.cons_ne_nil _ _, fun b => by rw [List.count_append, List.count_append]; omega⟩
      · rw [if_neg z, if_neg (by rw [e1]; exact fun q => z (sameN_iff.mpr q))]
        obtain ⟨w', p1, p2, p3, p4, p5⟩ := putX_RVs (b := b) h2 rv e2 c.2 hk
        refine ⟨o1 ++ w', .cons h1 p1, ?_, ?_, List.cons_ne_nil _ _, fun b => ?_⟩
        · show y.1 :: _ = nksOf (k :: _)
          rw [nksOf, p2, e1]
        · show (k :: (putN ks vs kd d).1).all keyT = true
          rw [List.all_cons, c.1, p3]
          rfl
        · have := p5 b
          rw [List.count_append, List.count_append]
          omega
end
end Mp
/-! Statements: what a statement reads as, and the small ones. -/
namespace Mp
open PySem L2
def Kp (pins : List Nat) (σ σ' : L2.St) : Prop := ∀ j ∈ pins, σ'[j]? = σ[j]?
def Fin (K : KW) (pins : List Nat) (D : Ends) (σ : L2.St) (G : Hp) (F : Fm) (H : Hp) : Out → Env → Prop
  | .nx, e' => ∀ σ' H' G', Rep K σ' H' G' e' F → Same G G' → (∀ a, 0 < F a → H' a = H a) → Kp pins σ σ' → D.nx σ' H'
  | .brk, e' => ∀ σ' H' G', Rep K σ' H' G' e' F → Same G G' → (∀ a, 0 < F a → H' a = H a) → Kp pins σ σ' → D.bk σ' H'
  | .cnt, e' => ∀ σ' H' G', Rep K σ' H' G' e' F → Same G G' → (∀ a, 0 < F a → H' a = H a) → Kp pins σ σ' → D.ct σ' H'
  | .ret d, e' => ∀ v σ' H' G' ws, RV K G' H' v d ws → Rep K σ' H' G' e' (plus ws F) → Same G G' → (∀ a, 0 < F a → H' a = H a) → Kp pins σ σ' → D.rt v H'
section
variable {K : KW} {call : CallF} {B : Nat} {pins : List Nat} {G H G' H' : Hp} {σ σ' : L2.St} {e e' e1 : Env} {F : Fm} {D : Ends}
theorem Kp.refl : Kp pins σ σ := fun _ _ => rfl
theorem Kp.trans {σ'' : L2.St} (h : Kp pins σ σ') (h' : Kp pins σ' σ'') : Kp pins σ σ'' := fun j hj => (h' j hj).trans (h j hj)
theorem Fin.from : ∀ {o : Out}, Fin K pins D σ G F H o e' → Same G G' → (∀ a, 0 < F a → H' a = H a) → Kp pins σ σ' → Fin K pins D σ' G' F H' o e'
  | .nx, f, s, k, p => fun σ2 H2 G2 r s2 k2 p2 => f σ2 H2 G2 r (s.trans s2) (fun a ha => (k2 a ha).trans (k a ha)) (p.trans p2)
  | .brk, f, s, k, p => fun σ2 H2 G2 r s2 k2 p2 => f σ2 H2 G2 r (s.trans s2) (fun a ha => (k2 a ha).trans (k a ha)) (p.trans p2)
  | .cnt, f, s, k, p => fun σ2 H2 G2 r s2 k2 p2 => f σ2 H2 G2 r (s.trans s2) (fun a ha => (k2 a ha).trans (k a ha)) (p.trans p2)
  | .ret d, f, s, k, p => fun v σ2 H2 G2 ws rv r s2 k2 p2 => f v σ2 H2 G2 ws rv r (s.trans s2) (fun a ha => (k2 a ha).trans (k a ha)) (p.trans p2)
def rS (K : KW) (call : CallF) (B : Nat) (pins : List Nat) (s : MS) : TS := fun D σ H => ∃ G e F o e', Rep K σ H G e F ∧ mex call B pins s e = .ok o e' ∧ Fin K pins D σ G F H o e'
def rSs (K : KW) (call : CallF) (B : Nat) (pins : List Nat) (s : MSs) : TS := fun D σ H => ∃ G e F o e', Rep K σ H G e F ∧ mexs call B pins s e = .ok o e' ∧ Fin K pins D σ G F H o e'
theorem nil_core (h : rSs K call B pins .nil D σ H) : tNext D σ H := by
  obtain ⟨G, e, F, o, e', rep, ev, f⟩ := h
  cases ev
  exact f σ H G rep (fun _ _ h => h) (fun _ _ => rfl) Kp.refl
theorem seq2_core {a : MS} {r : MSs} (h : rSs K call B pins (.cons a r) D σ H) : tSeq (rS K call B pins a) (rSs K call B pins r) D σ H := by
  obtain ⟨G, e, F, o, e', rep, ev, f⟩ := h
  rw [mexs] at ev
  cases ea : mex call B pins a e with
  | no => rw [ea] at ev; cases ev
  | ok oa e1 =>
    rw [ea, bind_ok] at ev
    refine ⟨G, e, F, oa, e1, rep, ea, ?_⟩
    cases oa with
    | nx => exact fun σ' H' G' r' s k p => ⟨G', e1, F, o, e', r', ev, f.from s k p⟩
    | brk => cases ev; exact f
    | cnt => cases ev; exact f
    | ret d => cases ev; exact f
theorem as_core {i : Nat} {a : ME} (h : rS K call B pins (.as i a) D σ H) : tAsg (rd K call a) (gName i) D σ H := by
  obtain ⟨G, e, F, o, e', rep, ev, f⟩ := h
  rw [mex] at ev
  cases ea : mev call a e with
  | no => rw [ea] at ev; cases ev
  | ok d e1 =>
    rw [ea, bind_ok] at ev
    cases es : store pins (.nm i) d e1 with
    | none => rw [es] at ev; cases ev
    | some e2 =>
      rw [es, of_some, bind_ok] at ev
      cases ev
      refine rd_bind rep ea fun v H1 G1 w1 rv rep1 s1 k1 _ => ?_
      exact tgt_run (tg := .nm i) rv rep1 es fun σ' r' _ p => f σ' H1 G1 r' s1 k1 p
theorem asT_core {is : List Nat} {a : ME} (h : rS K call B pins (.asT is a) D σ H) : tAsg (rd K call a) (gT K.K (.tp is)) D σ H := by
  obtain ⟨G, e, F, o, e', rep, ev, f⟩ := h
  rw [mex] at ev
  cases ea : mev call a e with
  | no => rw [ea] at ev; cases ev
  | ok d e1 =>
    rw [ea, bind_ok] at ev
    cases es : store pins (.tp is) d e1 with
    | none => rw [es] at ev; cases ev
    | some e2 =>
      rw [es, of_some, bind_ok] at ev
      cases ev
      refine rd_bind rep ea fun v H1 G1 w1 rv rep1 s1 k1 _ => ?_
      exact tgt_run rv rep1 es fun σ' r' _ p => f σ' H1 G1 r' s1 k1 p
theorem asN_core {is : List Nat} {j : Nat} {a : ME} (h : rS K call B pins (.asN is j a) D σ H) : tAsg (rd K call a) (gT K.K (.tn is j)) D σ H := by
  obtain ⟨G, e, F, o, e', rep, ev, f⟩ := h
  rw [mex] at ev
  cases ea : mev call a e with
  | no => rw [ea] at ev; cases ev
  | ok d e1 =>
    rw [ea, bind_ok] at ev
    cases es : store pins (.tn is j) d e1 with
    | none => rw [es] at ev; cases ev
    | some e2 =>
      rw [es, of_some, bind_ok] at ev
      cases ev
      refine rd_bind rep ea fun v H1 G1 w1 rv rep1 s1 k1 _ => ?_
      exact tgt_run rv rep1 es fun σ' r' _ p => f σ' H1 G1 r' s1 k1 p
/-- the pair is not built where the names are swapped -/
theorem par_core {i j : Nat} {as : MEs} (h : rS K call B pins (.asT [i, j] (.dsp true as)) D σ H) : tPar i j (tArgs K call as) D σ H := by
  obtain ⟨G, e, F, o, e', rep, ev, f⟩ := h
  rw [mex, mev] at ev
  cases ea : mevs call as e with
  | no => rw [ea] at ev; cases ev
  | ok ds e1 =>
    rw [ea, bind_ok] at ev
    split at ev
    · rw [bind_ok] at ev
      cases es : store pins (.tp [i, j]) (.tup ds) e1 with
      | none =>
        have es' : store pins (.tp [i, j]) (if true = true then Mp.D.tup ds else .lst true ds) e1 = none := es
        rw [es'] at ev; cases ev
      | some e2 =>
        have es' : store pins (.tp [i, j]) (if true = true then Mp.D.tup ds else .lst true ds) e1 = some e2 := es
        rw [es', of_some, bind_ok] at ev
        cases ev
        refine args_run as rep ea fun vs H1 G1 w1 rvs rep1 s1 k1 av => ?_
        have h : (if [i, j].any pins.contains then none else setAll [i, j] ds e1) = some e' := es
        split at h
        · cases h
        · rename_i hp
          have z := setAll_run (Q := fun σ' H' => D.nx σ' H') rvs rep1 h fun σ' r' _ q3 => f σ' H1 G1 r' s1 k1 fun j hj => q3 j fun z => hp (List.any_eq_true.mpr ⟨j, z, by simpa using hj⟩)
          obtain ⟨v, r, rfl, w, r2, rfl, rfl, z⟩ := z
          exact ⟨v, w, rfl, z⟩
    · cases ev
theorem ex_core {a : ME} (h : rS K call B pins (.ex a) D σ H) : tDrop (rd K call a) D σ H := by
  obtain ⟨G, e, F, o, e', rep, ev, f⟩ := h
  rw [mex] at ev
  cases ea : mev call a e with
  | no => rw [ea] at ev; cases ev
  | ok d e1 =>
    rw [ea, bind_ok] at ev
    cases ev
    exact rd_bind rep ea fun v H1 G1 w1 rv rep1 s1 k1 _ => f σ H1 G1 rep1.drop s1 k1 Kp.refl
theorem ret_core {a : ME} (h : rS K call B pins (.ret a) D σ H) : tRet (rd K call a) D σ H := by
  obtain ⟨G, e, F, o, e', rep, ev, f⟩ := h
  rw [mex] at ev
  cases ea : mev call a e with
  | no => rw [ea] at ev; cases ev
  | ok d e1 =>
    rw [ea, bind_ok] at ev
    cases ev
    exact rd_bind rep ea fun v H1 G1 w1 rv rep1 s1 k1 _ => f v σ H1 G1 w1 rv rep1 s1 k1 Kp.refl
theorem if_core {c : ME} {a b : MSs} (h : rS K call B pins (.ife c a b) D σ H) : tIfS (rdT K call c) (rSs K call B pins a) (rSs K call B pins b) D σ H := by
  obtain ⟨G, e, F, o, e', rep, ev, f⟩ := h
  rw [mex] at ev
  cases ec : truthR (mev call c e) with
  | no => rw [ec] at ev; cases ev
  | ok k e1 =>
    rw [ec, bind_ok] at ev
    refine ⟨G, e, F, k, e1, rep, ec, fun H1 G1 rep1 s1 k1 => ?_⟩
    cases k with
    | true => exact ⟨G1, e1, F, o, e', rep1, ev, f.from s1 k1 Kp.refl⟩
    | false => exact ⟨G1, e1, F, o, e', rep1, ev, f.from s1 k1 Kp.refl⟩
theorem wh_core {c : ME} {b : MSs} (h : rS K call B pins (.wh c b) D σ H) : tWhile (rdT K call c) (rSs K call B pins b) D σ H := by
  obtain ⟨G, e, F, o, e', rep, ev, f⟩ := h
  rw [mex] at ev
  refine ⟨fun m σ H => ∃ G e, Rep K σ H G e F ∧ whileL (fun e => truthR (mev call c e)) (fun e => mexs call B pins b e) m e = .ok o e' ∧ Fin K pins D σ G F H o e', ⟨B, G, e, rep, ev, f⟩, ?_⟩
  rintro m σ H ⟨G, e, rep, ev, f⟩
  cases m with
  | zero => cases ev
  | succ m =>
    rw [whileL] at ev
    cases ec : truthR (mev call c e) with
    | no => rw [ec] at ev; cases ev
    | ok k e1 =>
      rw [ec, bind_ok] at ev
      refine ⟨G, e, F, k, e1, rep, ec, fun H1 G1 rep1 s1 k1 => ?_⟩
      have f1 := f.from s1 k1 (Kp.refl (σ := σ))
      cases k with
      | false =>
        cases ev
        exact iteF (f1 σ H1 G1 rep1 (fun _ _ h => h) (fun _ _ => rfl) Kp.refl)
      | true =>
        refine iteT ⟨fun σ H => ∃ G e, Rep K σ H G e F ∧ whileL (fun e => truthR (mev call c e)) (fun e => mexs call B pins b e) m e = .ok o e' ∧ Fin K pins D σ G F H o e', fun σ' H' w => ⟨m, Nat.lt_succ_self m, w⟩, ?_⟩
        cases eb : mexs call B pins b e1 with
        | no => simp only [eb] at ev; cases ev
        | ok ob e2 =>
          simp only [eb, bind_ok] at ev
          refine ⟨G1, e1, F, ob, e2, rep1, eb, ?_⟩
          cases ob with
          | nx => exact fun σ2 H2 G2 r s k p => ⟨G2, e2, r, ev, f1.from s k p⟩
          | cnt => exact fun σ2 H2 G2 r s k p => ⟨G2, e2, r, ev, f1.from s k p⟩
          | brk => cases ev; exact f1
          | ret d => cases ev; exact f1
theorem for_core {tg : Tg} {it : MI} {b : MSs} (h : rS K call B pins (.for tg it b) D σ H) : tFor (rdI K call it) (gT K.K tg) (rSs K call B pins b) D σ H := by
  obtain ⟨G, e, F, o, e', rep, ev, f⟩ := h
  rw [mex] at ev
  cases ei : mit call it e with
  | no => rw [ei] at ev; cases ev
  | ok items e1 =>
    rw [ei, bind_ok] at ev
    refine ⟨G, e, F, items, e1, rep, ei, fun J H1 G1 rep1 s1 k1 ys => ?_⟩
    refine ⟨fun i m σ2 H2 => m = items.length - i ∧ i ≤ items.length ∧ ∃ G2 e2, Same G1 G2 ∧ Rep K σ2 H2 G2 e2 F ∧ forL (fun x e2 => (R.of (store pins tg x e2) e2).bind fun e3 _ => mexs call B pins b e3) (items.drop i) e2 = .ok o e' ∧ Fin K pins D σ2 G2 F H2 o e',
      ⟨items.length, by simp, Nat.zero_le _, G1, e1, fun _ _ h => h, rep1, by simpa using ev, f.from s1 k1 Kp.refl⟩, ?_⟩
    rintro i m σ2 H2 ⟨rfl, hi, G2, e2, sg, rep2, ev2, f2⟩
    obtain ⟨y1, y2⟩ := ys i H2 G2 sg rep2.same
    cases ex : items[i]? with
    | none =>
      refine .inl ⟨y2 ex, ?_⟩
      have hd : items.drop i = [] := List.drop_eq_nil_iff.mpr (List.getElem?_eq_none_iff.mp ex)
      rw [hd] at ev2
      cases ev2
      exact f2 σ2 H2 G2 rep2 (fun _ _ h => h) (fun _ _ => rfl) Kp.refl
    | some x =>
      obtain ⟨y3, y4⟩ := y1 x ex
      have hlt : i < items.length := (List.getElem?_eq_some_iff.mp ex).1
      have hd : items.drop i = x :: items.drop (i + 1) := by
        rw [List.drop_eq_getElem_cons hlt]
        congr 1
        exact Option.some.inj ((List.getElem?_eq_getElem hlt).symm.trans ex)
      refine .inr ⟨y3, fun σ3 H3 => ∃ G2 e2, Same G1 G2 ∧ Rep K σ3 H3 G2 e2 F ∧ forL (fun x e2 => (R.of (store pins tg x e2) e2).bind fun e3 _ => mexs call B pins b e3) (items.drop (i + 1)) e2 = .ok o e' ∧ Fin K pins D σ3 G2 F H3 o e',
        fun σ3 H3 ⟨G3, e3, z1, z2, z3, z4⟩ => ⟨items.length - (i + 1), by omega, rfl, by omega, G3, e3, z1, z2, z3, z4⟩, fun xv H3 hy => ?_⟩
      obtain ⟨G3, rvx, f3⟩ := y4 xv H3 hy
      rw [hd, forL] at ev2
      have rep3 := rep2.eff f3
      have k3 : ∀ a, 0 < F a → H3 a = H2 a := fun a ha => f3.keep (rep2.there ha)
      have fin3 := f2.from f3.sg k3 (Kp.refl (σ := σ2))
      cases es : store pins tg x e2 with
      | none => simp only [es] at ev2; cases ev2
      | some e3 =>
        simp only [es, of_some, bind_ok] at ev2
        refine tgt_run rvx rep3 es fun σ4 rep4 _ p4 => ?_
        cases eb : mexs call B pins b e3 with
        | no => rw [eb] at ev2; cases ev2
        | ok ob e4 =>
          rw [eb, bind_ok] at ev2
          refine ⟨G3, e3, F, ob, e4, rep4, eb, ?_⟩
          have sg3 : Same G1 G3 := sg.trans f3.sg
          cases ob with
          | nx => exact fun σ5 H5 G5 r s k p => ⟨G5, e4, sg3.trans s, r, ev2, fin3.from s k (Kp.trans p4 p)⟩
          | cnt => exact fun σ5 H5 G5 r s k p => ⟨G5, e4, sg3.trans s, r, ev2, fin3.from s k (Kp.trans p4 p)⟩
          | brk => cases ev2; exact fin3.from (fun _ _ h => h) (fun _ _ => rfl) p4
          | ret d => cases ev2; exact fin3.from (fun _ _ h => h) (fun _ _ => rfl) p4
end
end Mp
/-! Statements that change in place. -/
namespace Mp
open PySem L2
section
variable {K : KW} {call : CallF} {B : Nat} {pins : List Nat} {G H G' H' : Hp} {σ σ' : L2.St} {e e' e1 : Env} {F : Fm} {D : Ends}
theorem hole_ne {d : Mp.D} (h : isHole d = false) : d ≠ .hole := fun z => by rw [z] at h; cases h
theorem app_core {i : Nat} {a : ME} (h : rS K call B pins (.app i a) D σ H) : tDrop (tBM K.K "list" rAppend (tVar i) (tArgs K call (.cons a .nil))) D σ H := by
  obtain ⟨G, e, F, o, e', rep, ev, f⟩ := h
  rw [mex] at ev
  split at ev
  · rename_i ho
    have hn : get e i ≠ .hole := fun z => by rw [z] at ho; cases ho
    obtain ⟨v0, ws0, hσ, rv0, _⟩ := rep.take hn
    have ty : tyV K.K "list" v0 H := by
      unfold isOwn at ho
      split at ho
      · rename_i q
        rw [q] at rv0
        obtain ⟨p, vs, rfl, hs, _⟩ := rv0.lst_inv rep.same
        exact .inl ⟨rfl, vs, hs⟩
      · cases ho
    refine ⟨v0, hσ, ty, ?_⟩
    cases ea : mev call a e with
    | no => rw [ea] at ev; cases ev
    | ok d e1 =>
      rw [ea, bind_ok] at ev
      cases es : appSem (get e1 i) d with
      | none => rw [es] at ev; cases ev
      | some x =>
        rw [es, of_some, bind_ok] at ev
        cases ev
        refine rd_bind rep ea fun v H1 G1 w1 rv rep1 s1 k1 _ => ?_
        show rAppend v0 [v] H1 fun x H1 => D.nx σ H1
        unfold appSem at es
        split at es
        · rename_i d _ _ xs q
          split at es
          · rename_i hl
            cases es
            obtain ⟨v0', ws0', hσ', rv0', rep2⟩ := rep1.take (i := i) (by rw [q]; exact fun z => nomatch z)
            rw [hσ] at hσ'
            cases hσ'
            rw [q] at rv0'
            cases rv0' with
            | @own p vs _ ws1 h0 r0 =>
              obtain ⟨z1, z2⟩ := mut_core (w' := ws1 ++ (w1 ++ [])) (d' := .lst true (xs ++ [d])) (o' := .lst (vs ++ [v])) hσ rep2 (fun b => by rw [List.count_append, List.append_nil]; omega) fun hk =>
                .own upd_same (RVs.app (r0.move (fun _ _ h => h) fun b hb => hk b (List.mem_append_left _ hb)) (.cons (rv.move (fun _ _ h => h) fun b hb => hk b (List.mem_append_right _ (by rw [List.append_nil]; exact hb))) .nil))
              exact ⟨p, vs, v, rfl, rfl, h0, by rw [r0.length, ← big_eq]; exact hl, f σ _ G1 z1 s1 (fun a ha => (z2 a ha).trans (k1 a ha)) Kp.refl⟩
          · cases es
        · cases es
  · cases ev
theorem ins_core {i : Nat} {k a : ME} (h : rS K call B pins (.ins i k a) D σ H) : tDrop (tBM K.K "list" (fun x vs H Q => ∃ (l : Addr) (xs : List V) (i : Int) (y : V), x = .ref l ∧ vs = [.int i, y] ∧ H l = some (.lst xs) ∧ xs.length < sizeLine ∧ 0 ≤ i ∧ i < 2 ^ 63 ∧
    Q .non (upd H l (.lst (xs.take i.toNat ++ [y] ++ xs.drop i.toNat)))) (tVar i) (tArgs K call (.cons k (.cons a .nil)))) D σ H := by
  obtain ⟨G, e, F, o, e', rep, ev, f⟩ := h
  rw [mex] at ev
  split at ev
  · rename_i ho
    have hn : get e i ≠ .hole := fun z => by rw [z] at ho; cases ho
    obtain ⟨v0, ws0, hσ, rv0, _⟩ := rep.take hn
    have ty : tyV K.K "list" v0 H := by
      unfold isOwn at ho
      split at ho
      · rename_i q
        rw [q] at rv0
        obtain ⟨p, vs, rfl, hs, _⟩ := rv0.lst_inv rep.same
        exact .inl ⟨rfl, vs, hs⟩
      · cases ho
    refine ⟨v0, hσ, ty, ?_⟩
    cases ek : mev call k e with
    | no => rw [ek] at ev; cases ev
    | ok kd e0 =>
    rw [ek, bind_ok] at ev
    cases ea : mev call a e0 with
    | no => rw [ea] at ev; cases ev
    | ok d e1 =>
      rw [ea, bind_ok] at ev
      cases es : insSem (get e1 i) kd d with
      | none => rw [es] at ev; cases ev
      | some x =>
        rw [es, of_some, bind_ok] at ev
        cases ev
        refine rd_bind rep ek fun vk H0 G0 w0 rvk rep0 s0 k0 _ => ?_
        refine rd_bind rep0.drop ea fun v H1 G1 w1 rv rep1 s1 k1 _ => ?_
        unfold insSem at es
        split at es
        · rename_i d _ _ _ xs j q
          split at es
          · rename_i hl
            cases es
            simp only [Bool.and_eq_true, decide_eq_true_eq] at hl
            obtain ⟨v0', ws0', hσ', rv0', rep2⟩ := rep1.take (i := i) (by rw [q]; exact fun z => nomatch z)
            rw [hσ] at hσ'
            cases hσ'
            rw [q] at rv0'
            cases rv0' with
            | @own p vs _ ws1 h0 r0 =>
              obtain ⟨w', r1, c1⟩ := RVs.ins (j := j.toNat) r0 rv
              obtain ⟨z1, z2⟩ := mut_core (w' := w') (d' := .lst true (xs.take j.toNat ++ d :: xs.drop j.toNat)) (o' := .lst (vs.take j.toNat ++ [v] ++ vs.drop j.toNat)) hσ rep2 c1 fun hk => .own upd_same (by
                have r2 := r1.move (H' := upd H1 p (.lst (vs.take j.toNat ++ [v] ++ vs.drop j.toNat))) (fun _ _ h => h) hk
                have e9 : vs.take j.toNat ++ [v] ++ vs.drop j.toNat = vs.take j.toNat ++ v :: vs.drop j.toNat := by rw [List.append_assoc]; rfl
                rw [e9] at r2 ⊢
                exact r2)
              exact ⟨p, vs, j, v, rfl, by rw [rvk.int_inv], h0, by rw [r0.length, ← big_eq]; exact hl.1.1, hl.1.2, hl.2, f σ _ G1 z1 (s0.trans s1) (fun a ha => (z2 a ha).trans ((k1 a ha).trans (k0 a ha))) Kp.refl⟩
          · cases es
        · cases es
  · cases ev
theorem PSet.or {X : Cx} {t u : TSet} (h : PSet X t) (h' : PSet X u) : PSet X (fun o i v H Q => t o i v H Q ∨ u o i v H Q) := fun pins s σ H o i v ov iv x Q I ro ri rv q => by
  rcases q with q | q
  · exact h pins s σ H o i v ov iv x Q I ro ri rv q
  · exact h' pins s σ H o i v ov iv x Q I ro ri rv q
abbrev rSetA (K : KW) : TSet := fun o i v H Q => rSetL o i v H Q ∨ rSetD o i v H Q ∨ rSetN K o i v H Q
theorem seti_core {i : Nat} {k a : ME} (h : rS K call B pins (.seti i k a) D σ H) : tAsg (rd K call a) (gSub (tVar i) (rd K call k) (rSetA K)) D σ H := by
  obtain ⟨G, e, F, o, e', rep, ev, f⟩ := h
  rw [mex] at ev
  cases ea : mev call a e with
  | no => rw [ea] at ev; cases ev
  | ok d e1 =>
    rw [ea, bind_ok] at ev
    split at ev
    · cases ev
    · rename_i hn
      cases ek : mev call k e1 with
      | no => rw [ek] at ev; cases ev
      | ok kd e2 =>
        rw [ek, bind_ok] at ev
        cases es : setSem (get e2 i) kd d with
        | none => rw [es] at ev; cases ev
        | some x =>
          rw [es, of_some, bind_ok] at ev
          cases ev
          refine rd_bind rep ea fun v H1 G1 w1 rv rep1 s1 k1 _ => ?_
          obtain ⟨v0, ws0, hσ, _, _⟩ := rep1.take (i := i) (hole_ne (by simpa using hn))
          refine ⟨v0, hσ, ?_⟩
          refine rd_bind rep1 ek fun kv H2 G2 w2 rvk rep2 s2 k2 _ => ?_
          have rv2 : RV K G2 H2 v d w1 := rv.move s2 fun b hb => k2 b (plus_pos hb)
          have kF : ∀ a, 0 < F a → H2 a = H a := fun a ha => (k2 a (plus_pos' ha)).trans (k1 a ha)
          have rep2 : Rep K σ H2 G2 e2 (plus w1 F) := rep2.drop
          unfold setSem at es
          split at es
          · rename_i d _ _ _ xs j q
            obtain ⟨n, hj, rfl⟩ := Option.map_eq_some_iff.mp es
            obtain ⟨v0', ws0', hσ', rv0, rep3⟩ := rep2.take (i := i) (by rw [q]; exact fun z => nomatch z)
            rw [hσ] at hσ'
            cases hσ'
            rw [q] at rv0
            cases rv0 with
            | @own p vs _ ws1 h0 r0 =>
              obtain ⟨w', r1, c1⟩ := RVs.set (j := n) r0 rv2
              obtain ⟨z1, z2⟩ := mut_core (w' := w') (d' := .lst true (xs.set n d)) (o' := .lst (vs.set n v)) hσ rep3 c1 fun hk => .own upd_same (r1.move (fun _ _ h => h) hk)
              refine .inl ⟨p, vs, j, n, rfl, rvk.int_inv, h0, by rw [r0.length]; exact hj, ?_⟩
              exact f σ _ G2 z1 (s1.trans s2) (fun a ha => (z2 a ha).trans (kF a ha)) Kp.refl
          · rename_i d _ _ _ ks vs0 j q
            split at es
            · rename_i hc
              simp only [Bool.and_eq_true, decide_eq_true_eq] at hc
              obtain ⟨⟨⟨c1, c2⟩, c3⟩, c4⟩ := hc
              cases es
              obtain ⟨v0', ws0', hσ', rv0, rep3⟩ := rep2.take (i := i) (by rw [q]; exact fun z => nomatch z)
              rw [hσ] at hσ'
              cases hσ'
              rw [q] at rv0
              cases rv0 with
              | @dic p kvs _ ws1 h0 r0 =>
                obtain ⟨w', r1, e2', c5⟩ := putF_RVs (k := j) r0 rv2 c1
                rw [← e2'] at f
                obtain ⟨z1, z2⟩ := mut_core (w' := w') (d' := .dic true ((putF kvs j v).map fun p => keyV p.1) (putD (kvs.map fun p => keyV p.1) vs0 j d).2) (o' := .dK (putF kvs j v)) hσ rep3 c5 fun hk => .dic upd_same (r1.move (fun _ _ h => h) hk)
                refine .inr (.inl ⟨p, upd H2 p (.dK (putF kvs j v)), rfl, ?_, f σ _ G2 z1 (s1.trans s2) (fun a ha => (z2 a ha).trans (kF a ha)) Kp.refl⟩)
                refine .inl ⟨kvs, .inl j, h0, ?_, ?_, ?_⟩
                · rw [rvk.int_inv]; rfl
                · rw [← big_eq]
                  simpa using c2
                · rw [putF_eq c4]
              | dicN h n e c q r => exact (nest_int_no n e c c1).elim
            · cases es
          · rename_i d _ _ _ ks vs0 kxs q
            split at es
            · rename_i hc
              simp only [Bool.and_eq_true, decide_eq_true_eq] at hc
              obtain ⟨⟨⟨c1, c2⟩, c3⟩, c4⟩ := hc
              cases es
              obtain ⟨v0', ws0', hσ', rv0, rep3⟩ := rep2.take (i := i) (by rw [q]; exact fun z => nomatch z)
              rw [hσ] at hσ'
              cases hσ'
              rw [q] at rv0
              obtain ⟨p, ys, ws1, rfl, rfl, hn, hq, e2', r0⟩ := rv0.nest_own c2
              obtain ⟨b, vs, rfl, _⟩ := rvk.tup_inv rep3.same
              obtain ⟨w', r1, e3', c5, n5, c6⟩ := putX_RVs (b := b) (kd := .tup kxs) r0 rv2 e2' c2 c1
              have nk : NK K.K G2 (nkOf (.tup kxs)) (.ref b) := NK.of_rv rvk (keyT_D c1)
              obtain ⟨z1, z2⟩ := mut_core (w' := w') (d' := .dic true (putN ks vs0 (.tup kxs) d).1 (putN ks vs0 (.tup kxs) d).2) (o' := dN K.w p (putX ys (nkOf (.tup kxs)) b v)) hσ rep3 c6 fun hk =>
                .dicN upd_same n5 e3' c5 (fun x hx => by
                  rcases putX_mem hx with z | ⟨y, h1, h2, h3⟩
                  · rw [z.1, z.2]; exact nk
                  · rw [← h2, ← h3]; exact hq y h1) (r1.move (fun _ _ h => h) hk)
              refine .inr (.inr ⟨p, b, ys, _, rfl, rfl, hn, stand_of e2' c2 fun x hx => (hq x hx).keep rep2.same, nk.keep rep2.same, keyT_depth c1, ?_, ?_⟩)
              · rw [← big_eq]
                have e4 := congrArg List.length e2'
                rw [List.length_map, nksOf_len] at e4
                rw [e4]
                exact c3
              · exact f σ _ G2 z1 (s1.trans s2) (fun a ha => (z2 a ha).trans (kF a ha)) Kp.refl
            · cases es
          · cases es
end
end Mp
/-! Every statement. -/
namespace Mp
open PySem L2
section
variable {K : KW} {call : CallF} {B : Nat} {pins : List Nat} {G H G' H' : Hp} {σ σ' : L2.St} {e e' e1 : Env} {F : Fm} {D : Ends}
def rAddT : TIp := fun x y H Q => ∃ i j, x = .str i ∧ y = .str j ∧ i.length + j.length ≤ sizeLine ∧ Q (.str (i ++ j)) H
def augT : Op → TIp
  | .add => fun x y H Q => ipI (fun i j => i + j) x y H Q ∨ rAddT x y H Q
  | .sub => ipI fun i j => i - j
  | _ => fun _ _ _ _ => False
def augO : Op → Option Operator
  | .add => some .Add
  | .sub => some .Sub
  | _ => none
theorem pip_aug {X : Cx} {o : Op} {op : Operator} (h : augO o = some op) : PIp X op (augT o) := by
  unfold augO at h
  split at h
  · cases h
    intro pins s σ H x y v u Q I r1 r2 q
    rcases q with q | q
    · exact ip_add pins s σ H x y v u Q I r1 r2 q
    · exact iop_add_str pins s σ H x y v u Q I r1 r2 q
  · cases h; exact ip_sub
  · cases h
theorem kp_set {i : Nat} {v : Option V} (h : ¬ pins.contains i = true) : Kp pins σ (σ.set i v) := fun j hj => List.getElem?_set_ne fun z => h (by rw [z]; simpa using hj)
theorem aug_core {i : Nat} {o : Op} {a : ME} (h : rS K call B pins (.aug i o a) D σ H) : tAug i (rd K call a) (augT o) D σ H := by
  obtain ⟨G, e, F, ou, e', rep, ev, f⟩ := h
  rw [mex] at ev
  split at ev
  · cases ev
  · rename_i hp
    cases ea : mev call a e with
    | no => rw [ea] at ev; cases ev
    | ok d e1 =>
      rw [ea, bind_ok] at ev
      cases es : augSem o (get e i) d with
      | none => rw [es] at ev; cases ev
      | some x =>
        rw [es, of_some, bind_ok] at ev
        cases ev
        have fin : ∀ {v0 : V} {d0 dr : Mp.D} {vr : V}, get e i = d0 → d0 ≠ .hole → x = dr → (∀ G H, RV K G H vr dr []) → (∀ v0 ws0, RV K G H v0 d0 ws0 → ∀ v G1 H1 w1, RV K G1 H1 v d w1 → ∀ Q : VK, Q vr H1 → augT o v0 v H1 Q) → tAug i (rd K call a) (augT o) D σ H := fun {v0 d0 dr vr} hg hn hx hv hk => by
          subst hx
          obtain ⟨v0, ws0, hσ, rv0, _⟩ := rep.take (i := i) (by rw [hg]; exact hn)
          rw [hg] at rv0
          refine ⟨v0, hσ, rd_bind rep ea fun v H1 G1 w1 rv rep1 s1 k1 _ => ?_⟩
          refine hk v0 ws0 rv0 v G1 H1 w1 rv _ ?_
          exact f _ H1 G1 (Rep.store' (ws := []) (rep1.drop.le fun a => by unfold plus; simp) (hv G1 H1)) s1 k1 (kp_set hp)
        unfold augSem at es
        split at es
        · rename_i q
          cases es
          exact fin (v0 := .non) q (fun z => nomatch z) rfl (fun _ _ => .int _) fun v0 ws0 r0 v G1 H1 w1 r Q q => .inl ⟨_, _, r0.int_inv, r.int_inv, q⟩
        · rename_i q
          cases es
          exact fin (v0 := .non) q (fun z => nomatch z) rfl (fun _ _ => .int _) fun v0 ws0 r0 v G1 H1 w1 r Q q => ⟨_, _, r0.int_inv, r.int_inv, q⟩
        · rename_i q
          split at es
          · rename_i hl
            cases es
            refine fin (v0 := .non) q (fun z => nomatch z) rfl (fun _ _ => .str _) fun v0 ws0 r0 v G1 H1 w1 r Q q => .inr ⟨_, _, r0.str_inv, r.str_inv, ?_, ?_⟩
            · rw [size_str, size_str, ← big_eq]
              exact hl
            · rw [app_str]; exact q
          · cases es
        · cases es
end
/-! ### the checker -/
def notComp : Expr → Bool
  | .ListComp .. => false
  | .SetComp .. => false
  | .DictComp .. => false
  | _ => true
def noSwap (sc : Scope) (x : Str) (p : Pos) : Expr → Bool
  | .ListComp _ _ scope vp => !(decide (sc.names.lookup x = some .local) && (p.line == vp.line && !(scope.names.any fun y => y.1 == x && (y.2 == .local || y.2 == .cell))))
  | v => notComp v
def fnKind (sc : Scope) : Bool := match sc.kind with
  | .function => true
  | _ => false
def swapB (sc : Scope) : Expr → ME → Bool
  | .ListComp .., .lc .. => fnKind sc
  | _, _ => false
def isNm : Expr → Bool
  | .Name .. => true
  | _ => false
def isTup : Expr → Bool
  | .Tuple .. => true
  | _ => false
def locAt (sc : Scope) (line : Nat) : Expr → Option Str
  | .Name x p => if decide (sc.names.lookup x = some .local) && p.line == line then some x else none
  | _ => none
def foldB (sc : Scope) (vs : List Expr) : Bool := vs.all (foldedForSure 8)
/-- two plain names swapped -/
def parB (g : Gam) (i j : Nat) (x y : Str) (px py : Pos) (v w : Expr) : Bool :=
  decide (i ≠ j) && (decide (x ≠ y) && (slotB g i x && (slotB g j y && (decide (g.sc.names.lookup x = some .local) && (decide (g.sc.names.lookup y = some .local) && (px.line == py.line && (notStar v && (notStar w && (fnKind g.sc &&
    (!([v, w].all (foldedForSure 8)) && !([v, w].all (constantsAlone 8))))))))))))
def cellB (sc : Scope) (x y : Str) : Bool := !decide (sc.names.lookup x = some .local) || !decide (sc.names.lookup y = some .local)
def isAs : MEs → Option (ME × ME)
  | .cons a (.cons b .nil) => some (a, b)
  | _ => none
mutual
def chkS (g : Gam) : Stmt → MS → Bool
  | st, .as i a => (match st with
    | .Assign [.Name x p] v pos => tgB g (.nm i) (.Name x p) && (chkE g v a && (noSwap g.sc x p v || swapB g.sc v a))
    | .AnnAssign (.Name x p) ann (some v) k pos => tgB g (.nm i) (.Name x p) && (chkE g v a && noSwap g.sc x p v)
    | _ => false)
  | st, .asT is a => (match st with
    | .Assign [.Tuple [.Name x px, .Name y py] k p] (.Tuple [v, w] k2 p2) pos => (match is, a with
      | [i, j], .dsp true as => (parB g i j x y px py v w && chkEs g [v, w] as) || (cellB g.sc x y && (tgB g (.tp [i, j]) (.Tuple [.Name x px, .Name y py] k p) && chkE g (.Tuple [v, w] k2 p2) (.dsp true as)))
      | _, _ => false)
    | .Assign [.Tuple ts k p] v pos => tgB g (.tp is) (.Tuple ts k p) && (chkE g v a && !isTup v)
    | _ => false)
  | st, .asN is j a => (match st with
    | .Assign [.Tuple ts k p] v pos => tgB g (.tn is j) (.Tuple ts k p) && (chkE g v a && !isTup v)
    | _ => false)
  | st, .seti i k a => (match st with
    | .Assign [.Subscript o x p] v pos => nameB g o i && (chkE g x k && (chkE g v a && ixB x))
    | _ => false)
  | st, .app i a => (match st with
    | .Expr (.Call (.Attribute (.Name x xp) m ap) [v] [] cp) pos => nameB g (.Name x xp) i && (m == ("append" : Str) && (notStar v && (chkE g v a && ap.endLine == cp.line)))
    | _ => false)
  | st, .ins i k a => (match st with
    | .Expr (.Call (.Attribute (.Name x xp) m ap) [u, v] [] cp) pos => nameB g (.Name x xp) i && (m == ("insert" : Str) && (notStar u && (notStar v && (chkE g u k && (chkE g v a && ap.endLine == cp.line)))))
    | _ => false)
  | st, .aug i o a => (match st with
    | .AugAssign (.Name x p) op v pos => decide (augO o = some op) && (tgB g (.nm i) (.Name x p) && chkE g v a)
    | _ => false)
  | st, .ex a => (match st with
    | .Expr v pos => notComp v && chkE g v a
    | _ => false)
  | st, .ife c a b => (match st with
    | .If t x y pos => tOk t c && (chkE g t c && (chkSs g x a && chkSs g y b))
    | _ => false)
  | st, .wh c b => (match st with
    | .While t x [] pos => tOk t c && (chkE g t c && chkSs g x b)
    | _ => false)
  | st, .for tg it b => (match st with
    | .For t iter x [] pos => (notSet iter && tupNeed it t) && (tgB g tg t && (chkI g iter it && chkSs g x b))
    | _ => false)
  | st, .ret a => (match st with
    | .Return (some v) pos => chkE g v a
    | _ => false)
  | st, .retN => (match st with
    | .Return none pos => true
    | _ => false)
  | st, .brk => (match st with
    | .Break pos => true
    | _ => false)
  | st, .cnt => (match st with
    | .Continue pos => true
    | _ => false)
  | st, .pass => (match st with
    | .Pass pos => true
    | .Expr (.Constant (.str x) j p) pos => true
    | _ => false)
def chkSs (g : Gam) : List Stmt → MSs → Bool
  | sts, .nil => sts.isEmpty
  | sts, .cons a r => (match sts with
    | st :: sts => chkS g st a && chkSs g sts r
    | _ => false)
end
section
variable {g : Gam} {X : Cx} {call : CallF} {n B : Nat} {pins : List Nat}
theorem sw_not {v : Expr} {t : Option Expr} {l : Nat} {env : PySem.Env} (h : notComp v = true) : swapsWith v t l env = pure false := by
  cases v <;> first
    | rfl
    | (cases h; done)
theorem sw_sub {v o x : Expr} {p : Pos} {l : Nat} {env : PySem.Env} : swapsWith v (some (.Subscript o x p)) l env = pure false := by cases v <;> rfl
theorem sw_tup {v : Expr} {ts : List Expr} {k : Nat} {p : Pos} {l : Nat} {env : PySem.Env} : swapsWith v (some (.Tuple ts k p)) l env = pure false := by cases v <;> rfl
theorem sw_name {v : Expr} {x : Str} {p : Pos} {l : Nat} {env : PySem.Env} (h : noSwap env.scope x p v = true) : swapsWith v (some (.Name x p)) l env = pure false := by
  cases v <;> first
    | exact sw_not h
    | skip
  rename_i elt gens scope vp
  unfold noSwap at h
  show (pure (env.blockKind == .function && env.kindOf x == some .local && p.line == vp.line && !(scope.names.any fun (n, k) => n == x && (k == .local || k == .cell))) : Sem Bool) = pure false
  congr 1
  have e : (env.kindOf x == some .local) = decide (env.scope.names.lookup x = some .local) := by
    unfold PySem.Env.kindOf
    by_cases z : env.scope.names.lookup x = some .local
    · rw [z]; rfl
    · rw [decide_eq_false z]; exact beq_eq_false_iff_ne.mpr z
  rw [e, Bool.and_assoc, Bool.and_assoc]
  simp only [Bool.not_eq_true'] at h
  rw [h, Bool.and_false]
theorem ss_sub {v o x : Expr} {p : Pos} {env : PySem.Env} : swappedStores [.Subscript o x p] v env = pure none := by cases v <;> rfl
theorem ss_not {v : Expr} {ts : List Expr} {k : Nat} {p : Pos} {env : PySem.Env} (h : isTup v = false) : swappedStores [.Tuple ts k p] v env = pure none := by
  cases v <;> first
    | rfl
    | (cases h; done)
theorem ss_par {x y : Str} {px py p p2 : Pos} {k k2 : Nat} {v w : Expr} {env : PySem.Env} (h1 : x ≠ y) (h2 : env.scope.names.lookup x = some .local) (h3 : env.scope.names.lookup y = some .local) (h4 : (px.line == py.line) = true) (h5 : notStar v = true) (h6 : notStar w = true)
    (h7 : env.scope.kind = .function) (h8 : [v, w].all (foldedForSure 8) = false) (h9 : [v, w].all (constantsAlone 8) = false) : swappedStores [.Tuple [.Name x px, .Name y py] k p] (.Tuple [v, w] k2 p2) env = pure (some [x, y]) := by
  have hb : env.blockKind = .function := by unfold PySem.Env.blockKind; rw [h7]; rfl
  have hx : env.kindOf x = some .local := h2
  have hy : env.kindOf y = some .local := h3
  have hl : px.line = py.line := by simpa using h4
  have ed : [x, y].eraseDups = [x, y] := by
    have e : (y == x) = false := beq_eq_false_iff_ne.mpr fun z => h1 z.symm
    simp [List.eraseDups_cons, e]
  rw [show ([v, w].all (foldedForSure 8)) = (foldedForSure 8 v && (foldedForSure 8 w && true)) from rfl] at h8
  rw [show ([v, w].all (constantsAlone 8)) = (constantsAlone 8 v && (constantsAlone 8 w && true)) from rfl] at h9
  unfold swappedStores
  have h8' : ([v, w].all (foldedForSure 8)) = false := h8
  have h9' : ([v, w].all (constantsAlone 8)) = false := h9
  simp only [hb, List.filterMap_cons, List.filterMap_nil, List.head?_cons, Option.map_some, Option.getD_some, Expr.pos, hx, hy, hl, beq_self_eq_true, Bool.and_self, if_true, ed, h8', h9']
  rw [if_neg (by exact Bool.false_ne_true), if_neg (by
    cases v <;> first
      | (cases h5; done)
      | (cases w <;> first
        | (cases h6; done)
        | exact Bool.false_ne_true))]
  rfl
theorem ss_cell {x y : Str} {px py p p2 : Pos} {k k2 : Nat} {v w : Expr} {env : PySem.Env} (h : cellB env.scope x y = true) : swappedStores [.Tuple [.Name x px, .Name y py] k p] (.Tuple [v, w] k2 p2) env = pure none := by
  have e : ∀ z : Str, (env.kindOf z == some .local) = decide (env.scope.names.lookup z = some .local) := fun z => by
    unfold PySem.Env.kindOf
    by_cases q : env.scope.names.lookup z = some .local
    · rw [q]; rfl
    · rw [decide_eq_false q]; exact beq_eq_false_iff_ne.mpr q
  unfold cellB at h
  unfold swappedStores
  by_cases c1 : ((!(([Expr.Name x px, Expr.Name y py].length == 2 || [Expr.Name x px, Expr.Name y py].length == 3)) || [v, w].length != [Expr.Name x px, Expr.Name y py].length || env.blockKind != ScopeKind.function)) = true
  · simp only [c1]
    rfl
  · have c1 := Bool.eq_false_iff.mpr c1
    simp only [c1]
    have lt : ∀ (f : Expr → Option Str), (f (.Name x px) = none ∨ f (.Name y py) = none) → ([Expr.Name x px, Expr.Name y py].filterMap f).length ≠ 2 := fun f hf => by
      rcases hf with z | z
      · rw [List.filterMap_cons, z]
        have := List.length_filterMap_le f [Expr.Name y py]
        simp at this ⊢
        omega
      · rw [List.filterMap_cons, List.filterMap_cons, z]
        cases f (Expr.Name x px) <;> simp
    rw [if_neg (by exact Bool.false_ne_true)]
    split
    · rfl
    · rw [if_pos]
      rw [Bool.or_eq_true]
      left
      rw [bne_iff_ne]
      refine lt _ ?_
      rcases (Bool.or_eq_true _ _).mp h with z | z
      · left
        simp only [e, Bool.not_eq_true'] at z ⊢
        rw [z]
        rfl
      · right
        simp only [e, Bool.not_eq_true'] at z ⊢
        rw [z]
        rfl
theorem ps_lcM {σ : L2.St} (h : Good g X call n) {i : Nat} {x : Str} {p pos : Pos} {v : Expr} {a : ME} (hi : X.N[i]? = some x) (hn : noSwap g.sc x p v = false) (hs : swapB g.sc v a = true) (ck : chkE g v a = true) : L2.PS X (.Assign [.Name x p] v pos) (tAsg (rd X.kw call a) (gName i)) := by
  unfold swapB at hs
  split at hs
  · rename_i el gens scope vp own tg mi cond elt
    have hk : g.sc.kind = .function := by
      unfold fnKind at hs
      split at hs
      · assumption
      · cases hs
    unfold chkE at ck
    split at ck
    · rename_i el' t it ifs k scope' vp' q
      cases q
      simp only [Bool.and_eq_true, decide_eq_true_eq] at ck
      obtain ⟨⟨rfl, nd, hin, htn⟩, hb, hst, hi', ht, hc, he⟩ := ck
      have ok : BlkOk X.N X.env.scope scope (ownOf g own) := by rw [h.N, h.sc]; exact blkOk_by hb
      have htt : ∀ (s : Shared) (H : Hp) (C : Addr) (cl : List (Str × Addr)) (fp : List Addr), L2.PTs (X.blk s H scope (compEnvC scope cl C X.env) fp) ifs (rdT X.kw call cond) := fun s H C cl fp => by
        match ifs, hc with
        | [], hc =>
          have hc : isBlTrue cond = true := hc
          unfold isBlTrue at hc
          split at hc
          · exact PTs.mono pts_nil fun σ H Q q => rdT_yes q
          · cases hc
        | [c], hc =>
          have hc : (chkE (inner g scope) c cond && tOk c cond) = true := hc
          rw [Bool.and_eq_true] at hc
          exact pts_one ((sndE cond (h.inner scope s H C cl fp) hc.1).2.1 hc.2)
      have hel : ∀ (s : Shared) (H : Hp) (C : Addr) (cl : List (Str × Addr)) (fp : List Addr), PE (X.blk s H scope (compEnvC scope cl C X.env) fp) el (rd X.kw call elt) := fun s H C cl fp => (sndE elt (h.inner scope s H C cl fp) he).1
      have hgg : ∀ (s : Shared) (H : Hp) (C : Addr) (cl : List (Str × Addr)) (fp : List Addr), L2.PG (X.blk s H scope (compEnvC scope cl C X.env) fp) t (gT X.K tg) := fun s H C cl fp => pg_M (h.inner scope s H C cl fp) ht
      have hn : (!(decide (g.sc.names.lookup x = some .local) && (p.line == vp.line && !(scope.names.any fun y => y.1 == x && (y.2 == .local || y.2 == .cell))))) = false := hn
      simp only [Bool.not_eq_false', Bool.and_eq_true, decide_eq_true_eq] at hn
      obtain ⟨n1, n2, n3⟩ := hn
      have hsw : swapsWith (.ListComp el [⟨t, it, ifs, 0⟩] scope vp) (some (.Name x p)) pos.line X.env = pure true := by
        show (pure (X.env.blockKind == .function && X.env.kindOf x == some .local && p.line == vp.line && !(scope.names.any fun (n, k) => n == x && (k == .local || k == .cell))) : Sem Bool) = pure true
        congr 1
        have h1 : X.env.blockKind = .function := by unfold PySem.Env.blockKind; rw [h.sc, hk]; rfl
        have h2 : X.env.kindOf x = some .local := by unfold PySem.Env.kindOf; rw [h.sc]; exact n1
        rw [h1, h2, n2, n3]
        rfl
      have z := ps_setLc (X := X) (i := i) h.calm (by rw [h.N]; exact h.nd) hi (by rw [h.sc]; exact n1) hsw (sndI mi h hi' htn) ok hgg htt hel (set_of hst)
      rw [own_names] at z
      exact PS.mono z fun D σ H q => lc_coreM nd hin q
    · cases ck
  · cases hs
end
end Mp
/-! Every statement, by its own shape. -/
namespace Mp
open PySem L2
section
variable {call : CallF} {B : Nat} {pins : List Nat}
theorem Good.passes {g : Gam} {X : Cx} {n : Nat} (h : Good g X call n) : PassesOwn (model X.prog X.w) X.A X.env X.xe := by
  rw [h.xe]
  exact PassesOwn.never
theorem Good.setN {g : Gam} {X : Cx} {n i : Nat} {x : Str} {p : Pos} (h : Good g X call n) (t : tgB g (.nm i) (.Name x p) = true) :
    X.N[i]? = some x ∧ L2.Loc X.env.scope x ∧ (X.fn x = true ∨ X.env.scope.names.lookup x = some .local) := by
  have t : (slotB g i x && (locB g.sc x && (g.fn x || decide (g.sc.names.lookup x = some .local)))) = true := t
  simp only [Bool.and_eq_true] at t
  obtain ⟨t1, t2, t3⟩ := t
  unfold slotB at t1
  rw [Bool.and_eq_true] at t1
  refine ⟨by rw [h.N]; exact of_decide_eq_true t1.1, ?_, ?_⟩
  · unfold L2.Loc
    rw [h.sc]
    unfold locB at t2
    split at t2
    · rename_i e; exact .inl e
    · rename_i e; exact .inr e
    · cases t2
  · rw [Bool.or_eq_true] at t3
    rw [h.fn, h.sc]
    rcases t3 with z | z
    · exact .inl z
    · exact .inr (of_decide_eq_true z)
mutual
theorem sndS : ∀ (s : MS) {g : Gam} {X : Cx} {n : Nat} {st : Stmt}, Good g X call n → chkS g st s = true → L2.PS X st (rS X.kw call B pins s)
  | .as i a, g, X, n, st, h, ck => by
    unfold chkS at ck
    split at ck
    · simp only [Bool.and_eq_true] at ck
      obtain ⟨t, hv, sw⟩ := ck
      obtain ⟨z1, z2, z3⟩ := h.setN t
      cases sw0 : noSwap g.sc _ _ _ with
      | false =>
        rw [sw0, Bool.false_or] at sw
        exact PS.mono (ps_lcM (σ := []) h z1 sw0 sw hv) fun D σ H q => as_core q
      | true =>
      exact PS.mono (ps_set (by rw [h.N]; exact h.nd) z1 z2 (sndE a h hv).1 (sw_name (by rw [h.sc]; exact sw0)) z3) fun D σ H q => as_core q
    · simp only [Bool.and_eq_true] at ck
      obtain ⟨t, hv, sw⟩ := ck
      exact PS.mono (ps_ann (sndE a h hv).1 (pg_M h t) (sw_name (by rw [h.sc]; exact sw))) fun D σ H q => as_core q
    · cases ck
  | .asT is a, g, X, n, st, h, ck => by
    unfold chkS at ck
    split at ck
    · rename_i x px y py k p v w k2 p2 pos
      split at ck
      · rename_i i j as
        rw [Bool.or_eq_true] at ck
        rcases ck with ck | ck
        case inr =>
          simp only [Bool.and_eq_true] at ck
          obtain ⟨c0, t, hv⟩ := ck
          exact PS.mono (ps_asg (sndE (.dsp true as) h hv).1 (pg_M h t) (show swapsWith (.Tuple [v, w] k2 p2) (some (.Tuple [.Name x px, .Name y py] k p)) pos.line X.env = pure false from sw_tup) (ss_cell (by rw [h.sc]; exact c0))) fun D σ H q => asT_core q
        rw [Bool.and_eq_true] at ck
        obtain ⟨c1, c2⟩ := ck
        unfold parB at c1
        simp only [Bool.and_eq_true, decide_eq_true_eq, Bool.not_eq_true'] at c1
        obtain ⟨p1, p2', p3, p4, p5, p6, p7, p8, p9, p10, p11, p12⟩ := c1
        unfold slotB at p3 p4
        rw [Bool.and_eq_true] at p3 p4
        have hk : X.env.scope.kind = .function := by
          rw [h.sc]
          unfold fnKind at p10
          split at p10
          · assumption
          · cases p10
        exact PS.mono (ps_par h.calm (by rw [h.N]; exact h.nd) (by rw [h.N]; exact of_decide_eq_true p3.1) (by rw [h.N]; exact of_decide_eq_true p4.1) p1 (by rw [h.sc]; exact p5) (by rw [h.sc]; exact p6)
          (pa_ofM (sndEs as h c2) (by simp [p8, p9])) (ss_par p2' (by rw [h.sc]; exact p5) (by rw [h.sc]; exact p6) p7 p8 p9 hk p11 p12) rfl) fun D σ H q => par_core q
      · cases ck
    · rename_i ts k p v pos _
      simp only [Bool.and_eq_true, Bool.not_eq_true'] at ck
      obtain ⟨t, hv, nt⟩ := ck
      exact PS.mono (ps_asg (sndE a h hv).1 (pg_M h t) (show swapsWith v (some (.Tuple ts k p)) pos.line X.env = pure false from sw_tup) (ss_not nt)) fun D σ H q => asT_core q
    · cases ck
  | .asN is j a, g, X, n, st, h, ck => by
    unfold chkS at ck
    split at ck
    · rename_i ts k p v pos
      simp only [Bool.and_eq_true, Bool.not_eq_true'] at ck
      obtain ⟨t, hv, nt⟩ := ck
      exact PS.mono (ps_asg (sndE a h hv).1 (pg_M h t) (show swapsWith v (some (.Tuple ts k p)) pos.line X.env = pure false from sw_tup) (ss_not nt)) fun D σ H q => asN_core q
    · cases ck
  | .seti i k a, g, X, n, st, h, ck => by
    unfold chkS at ck
    split at ck
    · rename_i o x p v pos
      simp only [Bool.and_eq_true] at ck
      obtain ⟨c1, c2, c3, c4⟩ := ck
      exact PS.mono (ps_asg (sndE a h c3).1 (pg_sub (pe_nameM (t := tVar i) h c1 fun _ _ _ q => q) (sndE k h c2).1 (PSet.or set_list (PSet.or (set_dict (by have := h.u; omega)) (set_nest h.u))) fun w => by cases x <;> first | rfl | (cases c4; done)) (show swapsWith v (some (.Subscript o x p)) pos.line X.env = pure false from sw_sub) ss_sub) fun D σ H q => seti_core q
    · cases ck
  | .app i a, g, X, n, st, h, ck => by
    unfold chkS at ck
    split at ck
    · rename_i x xp m ap v cp pos
      simp only [Bool.and_eq_true, beq_iff_eq] at ck
      obtain ⟨c1, rfl, c3, c4, c5⟩ := ck
      have hp := pe_bm (cpos := cp) PySem.F.plainAttrs_list PySem.F.slot_list_append PySem.F.type_list_append mt_append (pe_nameM (t := tVar i) h c1 fun _ _ _ q => q) (pa_ofM (es := [v]) (as := .cons a .nil) ⟨(sndE a h c4).1, trivial⟩ (by simp [c3]))
        rfl (by rw [star1_of c3]; rfl) (by rw [c5]; simp) (star_of c3) rfl
      exact PS.mono (ps_expr hp (by rfl)) fun D σ H q => app_core q
    · cases ck
  | .ins i k a, g, X, n, st, h, ck => by
    unfold chkS at ck
    split at ck
    · rename_i x xp m ap u v cp pos
      simp only [Bool.and_eq_true, beq_iff_eq] at ck
      obtain ⟨c1, rfl, c2, c3, c4, c5, c6⟩ := ck
      have hs2 : starEach [u, v] X.env = [(false, eval u X.env), (false, eval v X.env)] := (star_of c2).trans (by rw [star1_of c3])
      have hp := pe_bm (cpos := cp) PySem.F.plainAttrs_list PySem.F.slot_list_insert PySem.F.type_list_insert mt_insert (pe_nameM (t := tVar i) h c1 fun _ _ _ q => q) (pa_ofM (es := [u, v]) (as := .cons k (.cons a .nil)) ⟨(sndE k h c4).1, (sndE a h c5).1, trivial⟩ (by simp [c2, c3]))
        rfl (by rw [hs2]; rfl) (by rw [c6]; simp) (star_of c2) (by rw [star1_of c3]; rfl)
      exact PS.mono (ps_expr hp (by rfl)) fun D σ H q => ins_core q
    · cases ck
  | .aug i o a, g, X, n, st, h, ck => by
    unfold chkS at ck
    split at ck
    · simp only [Bool.and_eq_true, decide_eq_true_eq] at ck
      obtain ⟨c1, t, hv⟩ := ck
      obtain ⟨z1, z2, z3⟩ := h.setN t
      exact PS.mono (ps_aug (by rw [h.N]; exact h.nd) z1 z2 (sndE a h hv).1 (pip_aug c1) z3) fun D σ H q => aug_core q
    · cases ck
  | .ex a, g, X, n, st, h, ck => by
    unfold chkS at ck
    split at ck
    · rw [Bool.and_eq_true] at ck
      exact PS.mono (ps_expr (sndE a h ck.2).1 (sw_not ck.1)) fun D σ H q => ex_core q
    · cases ck
  | .ife c a b, g, X, n, st, h, ck => by
    unfold chkS at ck
    split at ck
    · simp only [Bool.and_eq_true] at ck
      obtain ⟨c1, c2, c3, c4⟩ := ck
      exact PS.mono (ps_if ((sndE c h c2).2.1 c1) (sndSs a h c3) (sndSs b h c4)) fun D σ H q => if_core q
    · cases ck
  | .wh c b, g, X, n, st, h, ck => by
    unfold chkS at ck
    split at ck
    · simp only [Bool.and_eq_true] at ck
      obtain ⟨c1, c2, c3⟩ := ck
      exact PS.mono (ps_while h.passes ((sndE c h c2).2.1 c1) (sndSs b h c3)) fun D σ H q => wh_core q
    · cases ck
  | .for tg it b, g, X, n, st, h, ck => by
    unfold chkS at ck
    split at ck
    · simp only [Bool.and_eq_true] at ck
      obtain ⟨⟨c1, c0⟩, c2, c3, c4⟩ := ck
      exact PS.mono (ps_for h.passes h.calm (sndI it h c3 c0) (pg_M h c2) (sndSs b h c4) (set_of c1)) fun D σ H q => for_core q
    · cases ck
  | .ret a, g, X, n, st, h, ck => by
    unfold chkS at ck
    split at ck
    · exact PS.mono (ps_ret (sndE a h ck).1) fun D σ H q => ret_core q
    · cases ck
  | .retN, g, X, n, st, h, ck => by
    unfold chkS at ck
    split at ck
    · refine PS.mono ps_retN fun D σ H q => ?_
      obtain ⟨G, e, F, o, e', rep, ev, f⟩ := q
      cases ev
      exact f .non σ H G [] .non (rep.le fun a => by unfold plus; simp) (fun _ _ h => h) (fun _ _ => rfl) Kp.refl
    · cases ck
  | .brk, g, X, n, st, h, ck => by
    unfold chkS at ck
    split at ck
    · refine PS.mono ps_break fun D σ H q => ?_
      obtain ⟨G, e, F, o, e', rep, ev, f⟩ := q
      cases ev
      exact f σ H G rep (fun _ _ h => h) (fun _ _ => rfl) Kp.refl
    · cases ck
  | .cnt, g, X, n, st, h, ck => by
    unfold chkS at ck
    split at ck
    · refine PS.mono ps_continue fun D σ H q => ?_
      obtain ⟨G, e, F, o, e', rep, ev, f⟩ := q
      cases ev
      exact f σ H G rep (fun _ _ h => h) (fun _ _ => rfl) Kp.refl
    · cases ck
  | .pass, g, X, n, st, h, ck => by
    have core : ∀ D σ H, rS X.kw call B pins .pass D σ H → tNext D σ H := fun D σ H q => by
      obtain ⟨G, e, F, o, e', rep, ev, f⟩ := q
      cases ev
      exact f σ H G rep (fun _ _ h => h) (fun _ _ => rfl) Kp.refl
    unfold chkS at ck
    split at ck
    · exact PS.mono ps_pass core
    · exact PS.mono ps_doc core
    · cases ck
theorem sndSs : ∀ (s : MSs) {g : Gam} {X : Cx} {n : Nat} {sts : List Stmt}, Good g X call n → chkSs g sts s = true → L2.PSs X sts (rSs X.kw call B pins s)
  | .nil, g, X, n, sts, h, ck => by
    unfold chkSs at ck
    match sts, ck with
    | [], _ => exact PSs.mono pss_nil fun D σ H q => nil_core q
  | .cons a r, g, X, n, sts, h, ck => by
    unfold chkSs at ck
    split at ck
    · rw [Bool.and_eq_true] at ck
      exact PSs.mono (pss_cons (sndS a h ck.1) (sndSs r h ck.2)) fun D σ H q => seq2_core q
    · cases ck
end
end
end Mp
/-! Defs. -/
namespace Mp
open PySem L2
structure DT where
  md : MD
  x : Str
  ps : List Str
  N : List Str
  params : Arguments
  body : List Stmt
  scope : Scope
def gOf (fns : List Str) (cs : List (Str × D)) (bl : List Str) (d : DT) : Gam := ⟨d.N, d.scope, fun _ => true, fns, cs, bl⟩
def scB (N ps : List Str) (sc : Scope) : Bool :=
  fnKind sc && (!sc.isCoroutine && (!sc.isGenerator && (decide N.Nodup && (decide (N.take ps.length = ps) && (ps.all (locB sc) && sc.names.all fun y => !(y.2 == .free))))))
theorem scB_ok {N ps : List Str} {sc : Scope} (h : scB N ps sc = true) : FnScope N ps sc := by
  unfold scB at h
  simp only [Bool.and_eq_true, Bool.not_eq_true', decide_eq_true_eq, List.all_eq_true] at h
  obtain ⟨h1, h2, h3, h4, h5, h6, h7⟩ := h
  refine ⟨?_, h2, h3, h4, h5, fun x hx => ?_, fun y hy e => ?_⟩
  · unfold fnKind at h1
    split at h1
    · assumption
    · cases h1
  · have z := h6 x hx
    unfold locB at z
    split at z
    · rename_i e; exact .inl e
    · rename_i e; exact .inr e
    · cases z
  · have z := h7 y hy
    rw [e] at z
    cases z
def chkD (fns : List Str) (cs : List (Str × D)) (bl : List Str) (d : DT) : Bool :=
  scB d.N d.ps d.scope && (decide (d.md.n = d.N.length) && (decide (d.md.np = d.ps.length) && chkSs (gOf fns cs bl d) d.body d.md.body))
section
variable {K : KW} {G H : Hp}
theorem RSl.holes : ∀ k : Nat, RSl K G H (List.replicate k none) (List.replicate k .hole) []
  | 0 => .nil
  | k + 1 => RSl.cons (o1 := []) .none (RSl.holes k)
theorem RSl.start : ∀ {vs : List V} {ds : List Mp.D} {ws : List Addr} (k : Nat), RVs K G H vs ds ws → RSl K G H (vs.map some ++ List.replicate k none) (ds ++ List.replicate k .hole) ws
  | _, _, _, k, .nil => RSl.holes k
  | _, _, _, k, .cons h r => .cons (.some h) (RSl.start k r)
theorem outs_run : ∀ {σ : L2.St} {e : Env} {os : List Addr} {vs : List V} (f : Nat → Bool), RSl K G H σ e os → (∀ j v, f j = true → vs[j]? = some v → σ[j]? = some (some v)) →
    ∃ w, RVs K G H vs ((List.range vs.length).map fun i => if f i then get e i else .hole) w ∧ ∀ a, w.count a ≤ os.count a
  | σ, e, os, [], f, _, _ => ⟨[], .nil, fun a => by simp⟩
  | [], _, _, v :: vs, f, .nil, hk => by
    obtain ⟨w, r, c⟩ := outs_run (σ := []) (vs := vs) (fun i => f (i + 1)) .nil fun j u hf hu => by
      have := hk (j + 1) u hf (by simpa using hu)
      simp at this
    refine ⟨w, ?_, c⟩
    rw [List.length_cons, List.range_succ_eq_map, List.map_cons, List.map_map]
    have hf : f 0 = false := by
      cases z : f 0 with
      | false => rfl
      | true => have := hk 0 v z rfl; simp at this
    rw [hf]
    exact RVs.cons (o1 := []) (.hole v) r
  | o :: σ, _, _, v :: vs, f, .cons (d := d) (e := e) (o1 := o1) (o2 := o2) h r0, hk => by
    obtain ⟨w, r, c⟩ := outs_run (vs := vs) (fun i => f (i + 1)) r0 fun j u hf hu => by
      have := hk (j + 1) u hf (by simpa using hu)
      simpa using this
    rw [List.length_cons, List.range_succ_eq_map, List.map_cons, List.map_map]
    have r : RVs K G H vs ((List.range vs.length).map ((fun i => if f i = true then get (d :: e) i else .hole) ∘ Nat.succ)) w := r
    cases z : f 0 with
    | false => exact ⟨[] ++ w, .cons (.hole v) r, fun a => by have := c a; rw [List.count_append]; simp; omega⟩
    | true =>
      have e0 := hk 0 v z rfl
      have e0 : o = some v := by simpa using e0
      subst e0
      cases h with
      | some rv => exact ⟨o1 ++ w, .cons (by simpa [get] using rv) r, fun a => by have := c a; rw [List.count_append, List.count_append]; omega⟩
theorem body_core {B : Nat} {call : CallF} {md : MD} {N ps : List Str} {f : Nat} {vs : List V} {Q : VK} {E : XK} {call' : CallF} (hn : md.n = N.length) (hp : md.np = ps.length) (he : ∀ ds, call' f ds = mrun call B md ds) (h : spOf K call' f vs H Q E) :
    vs.length = ps.length ∧ rSs K call B md.pins md.body { nx := fun _ H' => Q .non H', rt := Q } (L2.start N vs) H := by
  obtain ⟨G, F, ds, ws, d, outs, rvs, sg, lin, ev, k⟩ := h
  rw [he] at ev
  unfold mrun at ev
  split at ev
  · rename_i hl
    have hl : ds.length = md.np := by simpa using hl
    have hv : vs.length = ps.length := by rw [rvs.length, hl, hp]
    refine ⟨hv, ?_⟩
    have r0 : RSl K G H (L2.start N vs) (ds ++ List.replicate (md.n - md.np) .hole) ws := by
      unfold L2.start
      rw [hn, hp, ← hv]
      exact RSl.start _ rvs
    have rep : Rep K (L2.start N vs) H G (ds ++ List.replicate (md.n - md.np) .hole) F := ⟨ws, r0, sg, lin⟩
    have fin : ∀ (v : V) (r : Mp.D) (e' : Env), some (r, outsOf md e') = some (d, outs) → ∀ (σ' : L2.St) (H' G' : Hp) (w1 : List Addr), RV K G' H' v r w1 → Rep K σ' H' G' e' (plus w1 F) → Same G G' → (∀ a, 0 < F a → H' a = H a) → Kp md.pins (L2.start N vs) σ' → Q v H' := fun v r e' eq σ' H' G' w1 rv rep' s k1 kp => by
      cases eq
      obtain ⟨os, r1, r2, r3⟩ := rep'
      obtain ⟨w2, q1, q2⟩ := outs_run (vs := vs) (fun i => md.pins.contains i) r1 fun j u hj hu => by
        rw [kp j (by simpa using hj)]
        unfold L2.start
        rw [List.getElem?_append_left (by rw [List.length_map]; exact (List.getElem?_eq_some_iff.mp hu).1), List.getElem?_map, hu]
        rfl
      have e2 : vs.length = md.np := by rw [hv, hp]
      rw [e2] at q1
      refine k v H' G' w1 w2 rv q1 s r2 (fun a => ?_) k1
      have z := r3 a
      have z2 := q2 a
      refine ⟨?_, fun q => z.2 ?_⟩
      · have z1 : os.count a + plus w1 F a ≤ 1 := z.1
        unfold plus at z1
        unfold plus
        rw [List.count_append]
        omega
      · have q : 0 < plus (w1 ++ w2) F a := q
        show 0 < os.count a + plus w1 F a
        unfold plus at q ⊢
        rw [List.count_append] at q
        omega
    split at ev
    · rename_i r e' em
      exact ⟨G, _, F, _, e', rep, em, fun v σ' H' G' w1 rv rep' s k1 kp => fin v r e' ev σ' H' G' w1 rv rep' s k1 kp⟩
    · rename_i e' em
      exact ⟨G, _, F, _, e', rep, em, fun σ' H' G' rep' s k1 kp => fin .non .non e' ev σ' H' G' [] .non (rep'.le fun a => by unfold plus; simp) s k1 kp⟩
    · cases ev
  · cases ev
end
section
variable {P : Program} {w : World} {K : PySem.W.Frag} {mg : Str → Option Value} {base : Heap} {B : Nat} {L : List DT} {cs : List (Str × D)} {bl : List Str}
abbrev fnsOf (L : List DT) : List Str := L.map (·.x)
abbrev tabOf (L : List DT) : List MD := L.map (·.md)
def DefOk (K : PySem.W.Frag) (mg : Str → Option Value) (d : DT) : Prop := ∃ a fd, mg d.x = some (.ref a) ∧ FunD K d.x d.x d.params d.body d.scope [] [] a fd ∧ Binds K fd d.ps []
def ConOk (K : KW) (mg : Str → Option Value) (p : Str × D) : Prop := ∃ u v, mg p.1 = some u ∧ RelV v u ∧ ∀ G H, RV K G H v p.2 []
theorem all_ok (hchk : ∀ d ∈ L, chkD (fnsOf L) cs bl d = true) (hF : ∀ d ∈ L, DefOk K mg d) (hcs : ∀ p ∈ cs, ConOk ⟨K, w⟩ mg p) (hbl : ∀ x ∈ bl, mg x = none) :
    ∀ (k f : Nat) (d : DT) (a : Addr) (fd : FuncData), L[f]? = some d → FunD K d.x d.x d.params d.body d.scope [] [] a fd → FnOk P w K mg base CX0 k a fd d.ps (spOf ⟨K, w⟩ (mcall B (tabOf L) k) f)
  | 0, f, d, a, fd, hL, F => by
    have no : ∀ {vs : List V} {H : Hp} {Q : VK} {E : XK}, spOf ⟨K, w⟩ (mcall B (tabOf L) 0) f vs H Q E → False := fun h => by
      obtain ⟨G, F, ds, ws, d, outs, rvs, sg, lin, ev, k⟩ := h
      cases ev
    exact ⟨fun vs H Q E h => (no h).elim, fun A outer s H args us vs Q E hr e0 hb hv h => (no h).elim⟩
  | k + 1, f, d, a, fd, hL, F => by
    have ck := hchk d (List.mem_of_getElem? hL)
    unfold chkD at ck
    simp only [Bool.and_eq_true, decide_eq_true_eq] at ck
    obtain ⟨c1, c2, c3, c4⟩ := ck
    have S := scB_ok c1
    have he : ∀ ds, mcall B (tabOf L) (k + 1) f ds = mrun (mcall B (tabOf L) k) B d.md ds := fun ds => by
      rw [mcall, List.getElem?_map, hL]
      rfl
    refine F.ok S (fun vs H Q E h => (body_core c2 c3 he h).1) fun cdv A outer s H vs Q E hr h => ⟨_, PSs.nox (sndSs (B := B) (pins := d.md.pins) (call := mcall B (tabOf L) k) (n := k) d.md.body ?_ c4), (body_core c2 c3 he h).2⟩
    refine ⟨rfl, S.nd, rfl, rfl, rfl, rfl, hr, fun x hx => hbl x (by have hx : bl.contains x = true := hx; simpa using hx), hcs, fun f' x hx => ?_⟩
    have hx : (L.map (·.x))[f']? = some x := hx
    rw [List.getElem?_map] at hx
    obtain ⟨d', hd', rfl⟩ := Option.map_eq_some_iff.mp hx
    obtain ⟨a', fd', m1, m2, m3⟩ := hF d' (List.mem_of_getElem? hd')
    exact ⟨a', fd', d'.ps, m1, m2.kp, m3, all_ok hchk hF hcs hbl k f' d' a' fd' hd' m2⟩
/-- a law's def, from what is said of data alone -/
theorem ints_RVs {G H : Hp} : ∀ ns : List Int, RVs ⟨K, w⟩ G H (ns.map V.int) (ns.map Mp.D.int) []
  | [] => .nil
  | n :: r => RVs.cons (o1 := []) (.int n) (ints_RVs r)
theorem law_sp {k f : Nat} {H : Hp} {a : Addr} {ns : List Int} {Q : VK} {E : XK} {outs : List Mp.D} (ev : mcall B (tabOf L) k f [.lst false (ns.map Mp.D.int)] = some (.bl true, outs)) (hS : SqL K H a (ns.map V.int)) (hQ : ∀ H', Q (.bl true) H') :
    spOf ⟨K, w⟩ (mcall B (tabOf L) k) f [.ref a] H Q E :=
  ⟨H, fun _ => 0, [.lst false (ns.map Mp.D.int)], [], .bl true, outs, RVs.cons (o1 := []) (.frz hS (ints_RVs ns) rfl) .nil, fun _ _ h => h, fun b => ⟨by unfold plus; simp, fun q => by unfold plus at q; simp at q⟩, ev,
    fun v H' G' w1 w2 rv _ _ _ _ _ => by rw [rv.bl_inv]; exact hQ H'⟩
end
end Mp
/-! Masks and words: the plain matching. -/
namespace Mp
inductive M : List Nat → List Nat → Prop
  | nil : M [] []
  | s0 {m w : List Nat} : M m w → M (42 :: m) w
  | s1 {m w : List Nat} {c : Nat} : M (42 :: m) w → M (42 :: m) (c :: w)
  | q {m w : List Nat} {c : Nat} : M m w → M (63 :: m) (c :: w)
  | l {m w : List Nat} {c : Nat} : c ≠ 42 → M m w → M (c :: m) (c :: w)
theorem M.nil_iff {w : List Nat} : M [] w ↔ w = [] := ⟨fun h => by cases h; rfl, fun h => by subst h; exact .nil⟩
theorem M.star_any (m : List Nat) : ∀ (u w : List Nat), M m w → M (42 :: m) (u ++ w)
  | [], w, h => .s0 h
  | c :: u, w, h => .s1 (M.star_any m u w h)
theorem M.star_inv : ∀ {w m : List Nat}, M (42 :: m) w → ∃ u v, w = u ++ v ∧ M m v
  | [], m, h => by cases h with | s0 h => exact ⟨[], [], rfl, h⟩
  | c :: w, m, h => by
    cases h with
    | s0 h => exact ⟨[], c :: w, rfl, h⟩
    | s1 h =>
      obtain ⟨u, v, e, k⟩ := M.star_inv h
      exact ⟨c :: u, v, by rw [e]; rfl, k⟩
    | l h _ => exact absurd rfl h
theorem M.star_iff {m w : List Nat} : M (42 :: m) w ↔ ∃ u v, w = u ++ v ∧ M m v := ⟨M.star_inv, fun ⟨u, v, e, k⟩ => e ▸ M.star_any m u v k⟩
theorem M.lit_iff {m w : List Nat} {s : Nat} (hs : s ≠ 42) : M (s :: m) w ↔ ∃ c v, w = c :: v ∧ (s = 63 ∨ s = c) ∧ M m v := by
  constructor
  · intro h
    cases h with
    | s0 h => exact absurd rfl hs
    | s1 h => exact absurd rfl hs
    | q h => exact ⟨_, _, rfl, .inl rfl, h⟩
    | l _ h => exact ⟨_, _, rfl, .inr rfl, h⟩
  · rintro ⟨c, v, rfl, h | h, k⟩
    · subst h; exact .q k
    · subst h; exact .l hs k
theorem M.append : ∀ {a b u v : List Nat}, M a u → M b v → M (a ++ b) (u ++ v)
  | _, b, _, v, .nil, k => k
  | _, b, _, v, .s0 h, k => .s0 (M.append h k)
  | _, b, _, v, .s1 h, k => .s1 (M.append h k)
  | _, b, _, v, .q h, k => .q (M.append h k)
  | _, b, _, v, .l n h, k => .l n (M.append h k)
theorem M.app_inv : ∀ {a b w : List Nat}, M (a ++ b) w → ∃ u v, w = u ++ v ∧ M a u ∧ M b v
  | [], b, w, h => ⟨[], w, rfl, .nil, h⟩
  | s :: a, b, w, h => by
    by_cases hs : s = 42
    · subst hs
      obtain ⟨x, y, e, k⟩ := M.star_inv (m := a ++ b) h
      obtain ⟨u, v, e2, k1, k2⟩ := M.app_inv k
      exact ⟨x ++ u, v, by rw [e, e2, List.append_assoc], M.star_any a x u k1, k2⟩
    · obtain ⟨c, y, e, d, k⟩ := (M.lit_iff (m := a ++ b) hs).mp h
      obtain ⟨u, v, e2, k1, k2⟩ := M.app_inv k
      exact ⟨c :: u, v, by rw [e, e2]; rfl, (M.lit_iff hs).mpr ⟨c, u, rfl, d, k1⟩, k2⟩
theorem M.app_iff {a b w : List Nat} : M (a ++ b) w ↔ ∃ u v, w = u ++ v ∧ M a u ∧ M b v := ⟨M.app_inv, fun ⟨_, _, e, h, k⟩ => e ▸ M.append h k⟩
theorem M.rev : ∀ {m w : List Nat}, M m w → M m.reverse w.reverse
  | _, _, .nil => .nil
  | _, _, .s0 (m := m) (w := w) h => by
    rw [List.reverse_cons]
    have := M.append (M.rev h) (M.s0 M.nil)
    rw [List.append_nil] at this
    exact this
  | _, _, .s1 (m := m) (w := w) (c := c) h => by
    have z := M.rev h
    rw [List.reverse_cons] at z ⊢
    rw [List.reverse_cons]
    obtain ⟨u, v, e, k1, k2⟩ := M.app_inv z
    obtain ⟨x, y, e2, k3⟩ := M.star_inv k2
    rw [M.nil_iff] at k3
    subst k3
    rw [e, e2, List.append_nil, List.append_assoc]
    refine M.append k1 ?_
    have := M.star_any [] (x ++ [c]) [] .nil
    rw [List.append_nil] at this
    exact this
  | _, _, .q h => by
    rw [List.reverse_cons, List.reverse_cons]
    exact M.append (M.rev h) (.q .nil)
  | _, _, .l n h => by
    rw [List.reverse_cons, List.reverse_cons]
    exact M.append (M.rev h) (.l n .nil)
theorem M.rev_iff {m w : List Nat} : M m.reverse w.reverse ↔ M m w := ⟨fun h => by have := h.rev; rwa [List.reverse_reverse, List.reverse_reverse] at this, M.rev⟩
/-- a star anywhere takes nothing away -/
theorem M.put_star {a b w : List Nat} (h : M (a ++ b) w) : M (a ++ [42] ++ b) w := by
  obtain ⟨u, v, e, h1, h2⟩ := M.app_inv h
  rw [List.append_assoc, e]
  exact M.append h1 (.s0 h2)
theorem M.put_q {a b w : List Nat} {s : Nat} (hs : s ≠ 42) (h : M (a ++ s :: b) w) : M (a ++ [63] ++ b) w := by
  obtain ⟨u, v, e, h1, h2⟩ := M.app_inv h
  obtain ⟨c, y, rfl, _, h3⟩ := (M.lit_iff hs).mp h2
  rw [List.append_assoc, e]
  exact M.append h1 (.q h3)
theorem M.two_stars {a b w : List Nat} : M (a ++ [42, 42] ++ b) w ↔ M (a ++ [42] ++ b) w := by
  rw [List.append_assoc, List.append_assoc, M.app_iff, M.app_iff]
  constructor
  · rintro ⟨u, v, e, h1, h2⟩
    refine ⟨u, v, e, h1, ?_⟩
    obtain ⟨x, y, rfl, h3⟩ := M.star_inv (m := 42 :: b) h2
    obtain ⟨x2, y2, rfl, h4⟩ := M.star_inv h3
    rw [← List.append_assoc]
    exact M.star_any b (x ++ x2) y2 h4
  · rintro ⟨u, v, e, h1, h2⟩
    exact ⟨u, v, e, h1, .s0 h2⟩
theorem M.plain : ∀ {p w : List Nat}, (∀ s ∈ p, s ≠ 42 ∧ s ≠ 63) → (M p w ↔ p = w)
  | [], w, _ => by rw [M.nil_iff]; exact eq_comm
  | s :: p, w, h => by
    obtain ⟨h1, h2⟩ := h s (List.mem_cons_self ..)
    have ih := fun v => M.plain (p := p) (w := v) fun s hs => h s (List.mem_cons_of_mem _ hs)
    rw [M.lit_iff h1]
    constructor
    · rintro ⟨c, v, rfl, d | d, k⟩
      · exact absurd d h2
      · rw [d, (ih v).mp k]
    · rintro rfl
      exact ⟨s, p, rfl, .inr rfl, (ih p).mpr rfl⟩

/-! ### by places -/
/-- the place is a star's -/
def St (m : List Nat) (p : Nat) : Prop := m[p]? = some 42
def Ok (m : List Nat) (c p : Nat) : Prop := ∃ s, m[p]? = some s ∧ s ≠ 42 ∧ (s = 63 ∨ s = c)
/-- a row of places, closed under free steps -/
def Cl (m : List Nat) (S : Nat → Prop) : Prop := ∀ p, S p → St m p → S (p + 1)
def Acc (m : List Nat) (S : Nat → Prop) (w : List Nat) : Prop := ∃ p, S p ∧ p ≤ m.length ∧ M (m.drop p) w
theorem drop_at {m : List Nat} {p s : Nat} (h : m[p]? = some s) : m.drop p = s :: m.drop (p + 1) := by
  obtain ⟨hl, e⟩ := List.getElem?_eq_some_iff.mp h
  rw [List.drop_eq_getElem_cons hl, e]
theorem Acc.nil {m : List Nat} {S : Nat → Prop} (cl : Cl m S) : Acc m S [] ↔ S m.length := by
  constructor
  · rintro ⟨p, hp, hl, h⟩
    induction hn : m.length - p generalizing p with
    | zero =>
      have : p = m.length := by omega
      exact this ▸ hp
    | succ n ih =>
      have hlt : p < m.length := by omega
      have e := drop_at (List.getElem?_eq_getElem hlt)
      rw [e] at h
      by_cases hs : m[p] = 42
      · rw [hs] at h
        have st : St m p := by unfold St; rw [List.getElem?_eq_getElem hlt, hs]
        refine ih (p + 1) (cl p hp st) (by omega) ?_ (by omega)
        cases h with
        | s0 h => exact h
      · obtain ⟨c, v, e2, _⟩ := (M.lit_iff hs).mp h
        cases e2
  · intro h
    exact ⟨m.length, h, Nat.le_refl _, by rw [List.drop_length]; exact .nil⟩
/-- one sign read -/
theorem Acc.step {m : List Nat} {S S' : Nat → Prop} {c : Nat} {w : List Nat} (cl : Cl m S) (hS : ∀ p, S' p ↔ ∃ q, S q ∧ ((St m q ∧ p = q) ∨ (Ok m c q ∧ p = q + 1))) : Acc m S' w ↔ Acc m S (c :: w) := by
  constructor
  · rintro ⟨p, hp, hl, h⟩
    obtain ⟨q, hq, ⟨st, rfl⟩ | ⟨⟨s, hs, h1, h2⟩, rfl⟩⟩ := (hS p).mp hp
    · refine ⟨p, hq, hl, ?_⟩
      rw [drop_at st] at h ⊢
      exact .s1 h
    · refine ⟨q, hq, by omega, ?_⟩
      rw [drop_at hs]
      exact (M.lit_iff h1).mpr ⟨c, w, rfl, h2, h⟩
  · rintro ⟨p, hp, hl, h⟩
    induction hn : m.length - p generalizing p with
    | zero =>
      rw [List.drop_of_length_le (by omega)] at h
      cases h
    | succ n ih =>
      have hlt : p < m.length := by omega
      have e := List.getElem?_eq_getElem hlt
      rw [drop_at e] at h
      by_cases hs : m[p] = 42
      · have st : St m p := by unfold St; rw [e, hs]
        rw [hs] at h
        cases h with
        | s0 h => exact ih (p + 1) (cl p hp st) (by omega) h (by omega)
        | s1 h => exact ⟨p, (hS p).mpr ⟨p, hp, .inl ⟨st, rfl⟩⟩, hl, by rw [drop_at st]; exact h⟩
        | l n _ => exact absurd rfl n
      · obtain ⟨c', v, e2, d, k⟩ := (M.lit_iff hs).mp h
        cases e2
        exact ⟨p + 1, (hS _).mpr ⟨p, hp, .inr ⟨⟨_, e, hs, d⟩, rfl⟩⟩, by omega, k⟩
/-- the free steps -/
inductive Rch (m : List Nat) : Nat → Nat → Prop
  | refl (p : Nat) : Rch m p p
  | step {p q : Nat} : St m p → Rch m (p + 1) q → Rch m p q
theorem Rch.snoc {m : List Nat} {p q : Nat} (h : Rch m p q) (s : St m q) : Rch m p (q + 1) := by
  induction h with
  | refl p => exact .step s (.refl _)
  | step a _ ih => exact .step a (ih s)
def Cls (m : List Nat) (S : Nat → Prop) : Nat → Prop := fun p => ∃ q, S q ∧ Rch m q p
theorem Cls.cl {m : List Nat} {S : Nat → Prop} : Cl m (Cls m S) := fun p ⟨q, hq, r⟩ s => ⟨q, hq, r.snoc s⟩
theorem St.lt {m : List Nat} {p : Nat} (h : St m p) : p < m.length := (List.getElem?_eq_some_iff.mp h).1
theorem Rch.M {m : List Nat} {p q : Nat} {w : List Nat} (h : Rch m p q) (k : Mp.M (m.drop q) w) : Mp.M (m.drop p) w := by
  induction h with
  | refl p => exact k
  | step a _ ih => rw [drop_at a]; exact .s0 (ih k)
theorem Rch.le {m : List Nat} {p q : Nat} (h : Rch m p q) : p ≤ q := by
  induction h with
  | refl p => exact Nat.le_refl _
  | step a _ ih => omega
theorem Acc.cls {m : List Nat} {S : Nat → Prop} {w : List Nat} : Acc m (Cls m S) w ↔ Acc m S w := by
  constructor
  · rintro ⟨p, ⟨q, hq, r⟩, hl, h⟩
    exact ⟨q, hq, Nat.le_trans r.le hl, r.M h⟩
  · rintro ⟨p, hp, hl, h⟩
    exact ⟨p, ⟨p, hp, .refl p⟩, hl, h⟩
end Mp
/-! Breadth first gives the shortlex-least word. -/
namespace Mp
def lexLt : List Nat → List Nat → Prop
  | a :: x, b :: y => a < b ∨ (a = b ∧ lexLt x y)
  | _, _ => False
def slt (x y : List Nat) : Prop := x.length < y.length ∨ (x.length = y.length ∧ lexLt x y)
theorem lexLt_irrefl : ∀ x : List Nat, ¬ lexLt x x
  | [], h => h
  | a :: x, h => by
    rcases h with h | ⟨_, h⟩
    · omega
    · exact lexLt_irrefl x h
theorem lexLt_trans : ∀ {x y z : List Nat}, lexLt x y → lexLt y z → lexLt x z
  | [], _, _, h, _ => by cases ‹List Nat› <;> exact h.elim
  | _ :: _, [], _, h, _ => h.elim
  | _ :: _, _ :: _, [], _, h => h.elim
  | a :: x, b :: y, c :: z, h1, h2 => by
    rcases h1 with h1 | ⟨rfl, h1⟩
    · rcases h2 with h2 | ⟨rfl, h2⟩
      · exact .inl (by omega)
      · exact .inl h1
    · rcases h2 with h2 | ⟨rfl, h2⟩
      · exact .inl h2
      · exact .inr ⟨rfl, lexLt_trans h1 h2⟩
theorem lexLt_tri : ∀ {x y : List Nat}, x.length = y.length → x = y ∨ lexLt x y ∨ lexLt y x
  | [], [], _ => .inl rfl
  | [], _ :: _, h => by simp at h
  | _ :: _, [], h => by simp at h
  | a :: x, b :: y, h => by
    by_cases h1 : a < b
    · exact .inr (.inl (.inl h1))
    · by_cases h2 : b < a
      · exact .inr (.inr (.inl h2))
      · have e : a = b := by omega
        subst e
        rcases lexLt_tri (x := x) (y := y) (by simpa using h) with h | h | h
        · exact .inl (by rw [h])
        · exact .inr (.inl (.inr ⟨rfl, h⟩))
        · exact .inr (.inr (.inr ⟨rfl, h⟩))
theorem lexLt_app : ∀ {x y : List Nat} (u v : List Nat), lexLt x y → lexLt (x ++ u) (y ++ v)
  | [], _, _, _, h => by cases ‹List Nat› <;> exact h.elim
  | _ :: _, [], _, _, h => h.elim
  | a :: x, b :: y, u, v, h => by
    rcases h with h | ⟨rfl, h⟩
    · exact .inl h
    · exact .inr ⟨rfl, lexLt_app u v h⟩
theorem lexLt_front : ∀ (x : List Nat) {u v : List Nat}, lexLt u v → lexLt (x ++ u) (x ++ v)
  | [], _, _, h => h
  | a :: x, _, _, h => .inr ⟨rfl, lexLt_front x h⟩
theorem slt_irrefl (x : List Nat) : ¬ slt x x := fun h => by
  rcases h with h | ⟨_, h⟩
  · omega
  · exact lexLt_irrefl x h
theorem slt_trans {x y z : List Nat} (h1 : slt x y) (h2 : slt y z) : slt x z := by
  rcases h1 with h1 | ⟨e1, h1⟩
  · rcases h2 with h2 | ⟨e2, h2⟩
    · exact .inl (by omega)
    · exact .inl (by omega)
  · rcases h2 with h2 | ⟨e2, h2⟩
    · exact .inl (by omega)
    · exact .inr ⟨by omega, lexLt_trans h1 h2⟩
theorem slt_tri (x y : List Nat) : x = y ∨ slt x y ∨ slt y x := by
  by_cases h1 : x.length < y.length
  · exact .inr (.inl (.inl h1))
  · by_cases h2 : y.length < x.length
    · exact .inr (.inr (.inl h2))
    · have e : x.length = y.length := by omega
      rcases lexLt_tri e with h | h | h
      · exact .inl h
      · exact .inr (.inl (.inr ⟨e, h⟩))
      · exact .inr (.inr (.inr ⟨e.symm, h⟩))
theorem slt_app {x y : List Nat} {u v : List Nat} (hl : u.length = v.length) (h : slt x y) : slt (x ++ u) (y ++ v) := by
  rcases h with h | ⟨e, h⟩
  · exact .inl (by rw [List.length_append, List.length_append]; omega)
  · exact .inr ⟨by rw [List.length_append, List.length_append]; omega, lexLt_app u v h⟩
theorem slt_snoc {x : List Nat} {a b : Nat} (h : a < b) : slt (x ++ [a]) (x ++ [b]) := .inr ⟨by simp, lexLt_front x (.inl h)⟩
theorem slt_nil {x : List Nat} {a : Nat} : slt [] (x ++ [a]) := .inl (by simp)
theorem lex_min : ∀ (n : Nat) (P : List Nat → Prop), (∃ w, w.length = n ∧ P w) → ∃ w, w.length = n ∧ P w ∧ ∀ w', w'.length = n → P w' → ¬ lexLt w' w
  | 0, P, ⟨w, h1, h2⟩ => ⟨w, h1, h2, fun w' h3 _ h4 => by
    have e1 := List.length_eq_zero_iff.mp h1
    have e2 := List.length_eq_zero_iff.mp h3
    subst e1 e2
    exact h4⟩
  | n + 1, P, h => by
    have fst : ∀ m : Nat, (∃ w, w.length = n ∧ P (m :: w)) → ∃ c, (∃ w, w.length = n ∧ P (c :: w)) ∧ ∀ c', c' < c → ¬ ∃ w, w.length = n ∧ P (c' :: w) := by
      intro m
      induction m using Nat.strongRecOn with
      | ind m ih =>
        intro hm
        by_cases hl : ∃ c', c' < m ∧ ∃ w, w.length = n ∧ P (c' :: w)
        · obtain ⟨c', h1, h2⟩ := hl
          exact ih c' h1 h2
        · exact ⟨m, hm, fun c' h1 h2 => hl ⟨c', h1, h2⟩⟩
    obtain ⟨w, h1, h2⟩ := h
    cases w with
    | nil => simp at h1
    | cons m w =>
      obtain ⟨c, hc, hmin⟩ := fst m ⟨w, by simpa using h1, h2⟩
      obtain ⟨v, v1, v2, v3⟩ := lex_min n (fun w => P (c :: w)) hc
      refine ⟨c :: v, by simp [v1], v2, fun w' h3 h4 h5 => ?_⟩
      cases w' with
      | nil => simp at h3
      | cons c' w' =>
        rcases h5 with h5 | ⟨rfl, h5⟩
        · exact hmin c' h5 ⟨w', by simpa using h3, h4⟩
        · exact v3 w' (by simpa using h3) h4 h5
theorem slt_min (P : List Nat → Prop) (h : ∃ w, P w) : ∃ w, P w ∧ ∀ w', P w' → ¬ slt w' w := by
  obtain ⟨w0, h0⟩ := h
  have len : ∀ m : Nat, (∃ w, w.length = m ∧ P w) → ∃ n, (∃ w, w.length = n ∧ P w) ∧ ∀ k, k < n → ¬ ∃ w, w.length = k ∧ P w := by
    intro m
    induction m using Nat.strongRecOn with
    | ind m ih =>
      intro hm
      by_cases hl : ∃ c', c' < m ∧ ∃ w, w.length = c' ∧ P w
      · obtain ⟨c', h1, h2⟩ := hl
        exact ih c' h1 h2
      · exact ⟨m, hm, fun c' h1 h2 => hl ⟨c', h1, h2⟩⟩
  obtain ⟨n, hn, hmin⟩ := len _ ⟨w0, rfl, h0⟩
  obtain ⟨w, w1, w2, w3⟩ := lex_min n P hn
  refine ⟨w, w2, fun w' h1 h2 => ?_⟩
  rcases h2 with h2 | ⟨e, h2⟩
  · exact hmin _ (by omega) ⟨w', rfl, h1⟩
  · exact w3 w' (by omega) h1 h2

section
variable {S : Type} (step : S → Nat → S) (dead goal : S → Prop) (sg : List Nat) (s0 : S)
def runS (s : S) (w : List Nat) : S := w.foldl step s
def GoalW (w : List Nat) : Prop := (∀ c ∈ w, c ∈ sg) ∧ goal (runS step s0 w)
def IsMin (m : List Nat) : Prop := GoalW step goal sg s0 m ∧ ∀ w, GoalW step goal sg s0 w → ¬ slt w m
noncomputable def grow {α : Type} (P : Prop) (L : List α) (x : α) : List α := @ite _ P (Classical.propDecidable P) L (L ++ [x])
theorem grow_t {α : Type} {P : Prop} {L : List α} {x : α} (h : P) : grow P L x = L := if_pos h
theorem grow_f {α : Type} {P : Prop} {L : List α} {x : α} (h : ¬ P) : grow P L x = L ++ [x] := if_neg h
noncomputable def exps (s : S) (u : List Nat) : List Nat → List (S × List Nat) → List (S × List Nat)
  | [], L => L
  | c :: cs, L => exps s u cs (grow (dead (step s c) ∨ step s c ∈ L.map (·.1)) L (step s c, u ++ [c]))
structure Jv (L : List (S × List Nat)) : Prop where
  run : ∀ p ∈ L, (∀ c ∈ p.2, c ∈ sg) ∧ p.1 = runS step s0 p.2
  ord : L.Pairwise fun p q => slt p.2 q.2
  nd : (L.map (·.1)).Nodup
structure Ov (L : List (S × List Nat)) (k : Nat) : Prop extends Jv step sg s0 L where
  src : ∀ p ∈ L, p.2 = [] ∨ ∃ i x c, i < k ∧ L[i]? = some x ∧ p.2 = x.2 ++ [c]
  min : ∀ m, IsMin step goal sg s0 m → ∃ j x v, k ≤ j ∧ L[j]? = some x ∧ x.2 ++ v = m
end
section
variable {S : Type} {step : S → Nat → S} {dead goal : S → Prop} {sg : List Nat} {s0 : S}
theorem runS_app (s : S) (u v : List Nat) : runS step s (u ++ v) = runS step (runS step s u) v := by unfold runS; rw [List.foldl_append]
theorem runS_snoc (s : S) (u : List Nat) (c : Nat) : runS step s (u ++ [c]) = step (runS step s u) c := by rw [runS_app]; rfl
theorem runS_cons (s : S) (c : Nat) (v : List Nat) : runS step s (c :: v) = runS step (step s c) v := rfl
theorem exps_ok {s : S} {u : List Nat} (hu : (∀ c ∈ u, c ∈ sg) ∧ s = runS step s0 u) : ∀ (cs : List Nat) (L : List (S × List Nat)), cs.Pairwise (· < ·) → (∀ c ∈ cs, c ∈ sg) → Jv step sg s0 L → (∀ p ∈ L, ∀ c ∈ cs, slt p.2 (u ++ [c])) →
    ∃ E, exps step dead s u cs L = L ++ E ∧ Jv step sg s0 (L ++ E) ∧ (∀ p ∈ E, ∃ c, p.2 = u ++ [c]) ∧ ∀ c ∈ cs, dead (step s c) ∨ (∃ x ∈ L ++ E, x.1 = step s c ∧ slt x.2 (u ++ [c])) ∨ (step s c, u ++ [c]) ∈ E
  | [], L, _, _, J, _ => ⟨[], by rw [exps, List.append_nil], by rw [List.append_nil]; exact J, fun _ h => (nomatch h), fun _ h => (nomatch h)⟩
  | c :: cs, L, hp, hs, J, K => by
    rw [List.pairwise_cons] at hp
    rw [exps]
    by_cases h : dead (step s c) ∨ step s c ∈ L.map (·.1)
    · rw [grow_t h]
      obtain ⟨E, e1, e2, e3, e4⟩ := exps_ok hu cs L hp.2 (fun x hx => hs x (List.mem_cons_of_mem _ hx)) J (fun p hp x hx => K p hp x (List.mem_cons_of_mem _ hx))
      refine ⟨E, e1, e2, e3, fun x hx => ?_⟩
      rcases List.mem_cons.mp hx with rfl | hx
      · rcases h with h | h
        · exact .inl h
        · obtain ⟨p, hp, he⟩ := List.mem_map.mp h
          exact .inr (.inl ⟨p, List.mem_append_left _ hp, he, K p hp x (List.mem_cons_self ..)⟩)
      · exact e4 x hx
    · rw [grow_f h]
      rw [not_or] at h
      have J' : Jv step sg s0 (L ++ [(step s c, u ++ [c])]) := by
        refine ⟨fun p hp => ?_, ?_, ?_⟩
        · rcases List.mem_append.mp hp with hp | hp
          · exact J.run p hp
          · rw [List.mem_singleton] at hp
            subst hp
            refine ⟨fun x hx => ?_, ?_⟩
            · rcases List.mem_append.mp hx with hx | hx
              · exact hu.1 x hx
              · rw [List.mem_singleton] at hx
                exact hx ▸ hs c (List.mem_cons_self ..)
            · show step s c = runS step s0 (u ++ [c])
              rw [runS_snoc, ← hu.2]
        · rw [List.pairwise_append]
          refine ⟨J.ord, List.pairwise_singleton _ _, fun p hp q hq => ?_⟩
          rw [List.mem_singleton] at hq
          subst hq
          exact K p hp c (List.mem_cons_self ..)
        · rw [List.map_append, List.nodup_append]
          refine ⟨J.nd, by simp, fun a ha b hb e => ?_⟩
          have hb : b = step s c := by simpa using hb
          exact h.2 (by rw [← hb, ← e]; exact ha)
      obtain ⟨E, e1, e2, e3, e4⟩ := exps_ok hu cs (L ++ [(step s c, u ++ [c])]) hp.2 (fun x hx => hs x (List.mem_cons_of_mem _ hx)) J' (fun p hp' x hx => by
        rcases List.mem_append.mp hp' with hp' | hp'
        · exact K p hp' x (List.mem_cons_of_mem _ hx)
        · rw [List.mem_singleton] at hp'
          subst hp'
          exact slt_snoc (hp.1 x hx))
      refine ⟨(step s c, u ++ [c]) :: E, by rw [e1, List.append_assoc]; rfl, by rw [List.append_assoc] at e2; exact e2, fun p hp => ?_, fun x hx => ?_⟩
      · rcases List.mem_cons.mp hp with rfl | hp
        · exact ⟨c, rfl⟩
        · exact e3 p hp
      · rcases List.mem_cons.mp hx with rfl | hx
        · exact .inr (.inr (List.mem_cons_self ..))
        · rcases e4 x hx with h1 | ⟨y, h1, h2⟩ | h1
          · exact .inl h1
          · rw [List.append_assoc] at h1
            exact .inr (.inl ⟨y, h1, h2⟩)
          · exact .inr (.inr (List.mem_cons_of_mem _ h1))
theorem pair_at {L : List (S × List Nat)} (h : L.Pairwise fun p q => slt p.2 q.2) {i j : Nat} {x y : S × List Nat} (hi : L[i]? = some x) (hj : L[j]? = some y) (hij : i < j) : slt x.2 y.2 := by
  obtain ⟨h1, e1⟩ := List.getElem?_eq_some_iff.mp hi
  obtain ⟨h2, e2⟩ := List.getElem?_eq_some_iff.mp hj
  rw [List.pairwise_iff_getElem] at h
  have := h i j h1 h2 hij
  rw [e1, e2] at this
  exact this
theorem ov_init : Ov step goal sg s0 [(s0, [])] 0 := by
  refine ⟨⟨fun p hp => ?_, List.pairwise_singleton _ _, by simp⟩, fun p hp => ?_, fun m _ => ⟨0, (s0, []), m, Nat.le_refl _, rfl, rfl⟩⟩
  · rw [List.mem_singleton] at hp
    subst hp
    exact ⟨fun _ h => (nomatch h), rfl⟩
  · rw [List.mem_singleton] at hp
    subst hp
    exact .inl rfl
theorem ov_step (hd : ∀ s w, dead s → ¬ goal (runS step s w)) (hs : sg.Pairwise (· < ·)) {L : List (S × List Nat)} {k : Nat} {s : S} {u : List Nat} (o : Ov step goal sg s0 L k) (hk : L[k]? = some (s, u)) (ng : ¬ goal s) : Ov step goal sg s0 (exps step dead s u sg L) (k + 1) := by
  have hm : (s, u) ∈ L := List.mem_of_getElem? hk
  have hu := o.run _ hm
  have kl : k < L.length := (List.getElem?_eq_some_iff.mp hk).1
  obtain ⟨E, e1, e2, e3, e4⟩ := exps_ok (dead := dead) (s := s) (u := u) hu sg L hs (fun _ h => h) o.toJv fun p hp c _ => by
    rcases o.src p hp with h | ⟨i, x, c', h1, h2, h3⟩
    · rw [h]; exact slt_nil
    · rw [h3]
      exact slt_app rfl (pair_at o.ord h2 hk h1)
  rw [e1]
  refine ⟨e2, fun p hp => ?_, fun m hmin => ?_⟩
  · rcases List.mem_append.mp hp with hp | hp
    · rcases o.src p hp with h | ⟨i, x, c', h1, h2, h3⟩
      · exact .inl h
      · exact .inr ⟨i, x, c', by omega, by rw [List.getElem?_append_left (List.getElem?_eq_some_iff.mp h2).1]; exact h2, h3⟩
    · obtain ⟨c, hc⟩ := e3 p hp
      exact .inr ⟨k, (s, u), c, by omega, by rw [List.getElem?_append_left kl]; exact hk, hc⟩
  · obtain ⟨j, x, v, h1, h2, h3⟩ := o.min m hmin
    by_cases hj : j = k
    · subst hj
      rw [hk] at h2
      cases h2
      have h3 : u ++ v = m := h3
      cases v with
      | nil =>
        rw [List.append_nil] at h3
        subst h3
        exact absurd (by have := hmin.1.2; rw [← hu.2] at this; exact this) ng
      | cons c v =>
        have hc : c ∈ sg := hmin.1.1 c (by rw [← h3]; simp)
        have hv : ∀ x ∈ v, x ∈ sg := fun x hx => hmin.1.1 x (by rw [← h3]; simp [hx])
        have hg : goal (runS step (step s c) v) := by
          have := hmin.1.2
          rw [← h3, runS_app, ← hu.2, runS_cons] at this
          exact this
        rcases e4 c hc with h | ⟨y, y1, y2, y3⟩ | h
        · exact absurd hg (hd _ _ h)
        · refine absurd ?_ (hmin.2 (y.2 ++ v) ⟨fun x hx => ?_, ?_⟩)
          · rw [← h3, show u ++ c :: v = (u ++ [c]) ++ v by simp]
            exact slt_app rfl y3
          · rcases List.mem_append.mp hx with hx | hx
            · exact (e2.run y y1).1 x hx
            · exact hv x hx
          · rw [runS_app, ← (e2.run y y1).2, y2]
            exact hg
        · obtain ⟨i, hi⟩ := List.mem_iff_getElem?.mp h
          exact ⟨L.length + i, (step s c, u ++ [c]), v, by omega, by rw [List.getElem?_append_right (by omega), show L.length + i - L.length = i by omega]; exact hi, by rw [← h3]; simp⟩
    · exact ⟨j, x, v, by omega, by rw [List.getElem?_append_left (List.getElem?_eq_some_iff.mp h2).1]; exact h2, h3⟩
theorem ov_goal {L : List (S × List Nat)} {k : Nat} {s : S} {u : List Nat} (o : Ov step goal sg s0 L k) (hk : L[k]? = some (s, u)) (hg : goal s) : IsMin step goal sg s0 u := by
  have hu := o.run _ (List.mem_of_getElem? hk)
  have gw : GoalW step goal sg s0 u := ⟨hu.1, by rw [← hu.2]; exact hg⟩
  obtain ⟨m, hm⟩ := slt_min (GoalW step goal sg s0) ⟨u, gw⟩
  have hm : IsMin step goal sg s0 m := hm
  obtain ⟨j, x, v, h1, h2, h3⟩ := o.min m hm
  have n1 : ¬ slt m u := fun h => by
    have hle : x.2 = u ∨ slt u x.2 := by
      by_cases e : j = k
      · subst e
        rw [hk] at h2
        cases h2
        exact .inl rfl
      · exact .inr (pair_at o.ord hk h2 (by omega))
    have hux : slt m x.2 := by
      rcases hle with e | e
      · rw [e]; exact h
      · exact slt_trans h e
    rw [← h3] at hux
    rcases hux with h | ⟨h, h'⟩
    · rw [List.length_append] at h; omega
    · rw [List.length_append] at h
      have e : v = [] := List.length_eq_zero_iff.mp (by omega)
      rw [e, List.append_nil] at h'
      exact lexLt_irrefl _ h'
  rcases slt_tri m u with e | e | e
  · exact e ▸ hm
  · exact absurd e n1
  · exact absurd e (hm.2 u gw)
theorem ov_end {L : List (S × List Nat)} {k : Nat} (o : Ov step goal sg s0 L k) (hk : L.length ≤ k) : ∀ w, ¬ GoalW step goal sg s0 w := fun w hw => by
  obtain ⟨m, hm⟩ := slt_min (GoalW step goal sg s0) ⟨w, hw⟩
  obtain ⟨j, x, v, h1, h2, h3⟩ := o.min m hm
  have := (List.getElem?_eq_some_iff.mp h2).1
  omega
end
theorem nodup_sub {α : Type} [DecidableEq α] : ∀ (l L : List α), l.Nodup → (∀ x ∈ l, x ∈ L) → l.length ≤ L.length
  | [], L, _, _ => Nat.zero_le _
  | x :: l, L, nd, h => by
    rw [List.nodup_cons] at nd
    have hx := h x (List.mem_cons_self ..)
    have := nodup_sub l (L.erase x) nd.2 fun y hy => (List.mem_erase_of_ne (fun (e : y = x) => nd.1 (by rw [← e]; exact hy))).mpr (h y (List.mem_cons_of_mem _ hy))
    rw [List.length_erase_of_mem hx] at this
    have : 0 < L.length := List.length_pos_of_mem hx
    rw [List.length_cons]
    omega
def pw : List Nat → List (List Nat)
  | [] => [[]]
  | x :: xs => pw xs ++ (pw xs).map (x :: ·)
theorem pw_len : ∀ l : List Nat, (pw l).length = 2 ^ l.length
  | [] => rfl
  | x :: xs => by
    rw [pw, List.length_append, List.length_map, pw_len xs, List.length_cons, Nat.pow_succ]
    omega
theorem pw_filter (p : Nat → Bool) : ∀ l : List Nat, l.filter p ∈ pw l
  | [] => List.mem_singleton.mpr rfl
  | x :: xs => by
    rw [pw, List.mem_append, List.filter_cons]
    split
    · exact .inr (List.mem_map_of_mem (pw_filter p xs))
    · exact .inl (pw_filter p xs)
theorem sorted_ext : ∀ {a b : List Nat}, a.Pairwise (· < ·) → b.Pairwise (· < ·) → (∀ x, x ∈ a ↔ x ∈ b) → a = b
  | [], [], _, _, _ => rfl
  | [], y :: b, _, _, h => absurd ((h y).mpr (List.mem_cons_self ..)) (by simp)
  | x :: a, [], _, _, h => absurd ((h x).mp (List.mem_cons_self ..)) (by simp)
  | x :: a, y :: b, ha, hb, h => by
    rw [List.pairwise_cons] at ha hb
    have e : x = y := by
      rcases List.mem_cons.mp ((h x).mp (List.mem_cons_self ..)) with e | e
      · exact e
      · rcases List.mem_cons.mp ((h y).mpr (List.mem_cons_self ..)) with e2 | e2
        · exact e2.symm
        · have := hb.1 x e
          have := ha.1 y e2
          omega
    subst e
    congr 1
    refine sorted_ext ha.2 hb.2 fun z => ⟨fun hz => ?_, fun hz => ?_⟩
    · rcases List.mem_cons.mp ((h z).mp (List.mem_cons_of_mem _ hz)) with e | e
      · have := ha.1 z hz; omega
      · exact e
    · rcases List.mem_cons.mp ((h z).mpr (List.mem_cons_of_mem _ hz)) with e | e
      · have := hb.1 z hz; omega
      · exact e
theorem range_sorted (n : Nat) : (List.range n).Pairwise (· < ·) := List.pairwise_lt_range
end Mp
set_option maxHeartbeats 0
namespace Hd
open PySem PySem.Spec PyProof.Rows L2
def top (i : Nat) : Stmt := PySem.Challenge.pw_splitmoot_k03_whole_masks_covered.main.body.getD i (.Pass ⟨0, 0, 0, 0⟩)
def kwAt (f : Str × Option Str) (x : Str) (K : PySem.W.Frag) : Addr := match K.lookup (He.fAd K f) with
  | some ⟨_, _, .func fd, _⟩ => (match fd.kwdefaults with
    | .ref D => (match PySem.W.nsIn K D x with
      | some (some (.ref a)) => a
      | _ => 0)
    | _ => 0)
  | _ => 0
def d0 : He.DefD := ⟨("spread", none), "spread", "spread", defArgs (top 2), defBody (top 2), defScope (top 2), [], []⟩
def d1 : He.DefD := ⟨("stepped", none), "stepped", "stepped", defArgs (top 3), defBody (top 3), defScope (top 3), [], []⟩
def d2 : He.DefD := ⟨("is_done", none), "is_done", "is_done", defArgs (top 4), defBody (top 4), defScope (top 4), [], []⟩
def d3 : He.DefD := ⟨("covers", none), "covers", "covers", defArgs (top 5), defBody (top 5), defScope (top 5), [], []⟩
def d4 : He.DefD := ⟨("_law_deck", none), "_law_deck", "_law_deck", defArgs (top 7), defBody (top 7), defScope (top 7), [], []⟩
def d5 : He.DefD := ⟨("_law_pick", none), "_law_pick", "_law_pick", defArgs (top 8), defBody (top 8), defScope (top 8), [], []⟩
def d6 : He.DefD := ⟨("_law_mask", none), "_law_mask", "_law_mask", defArgs (top 9), defBody (top 9), defScope (top 9), [], []⟩
def d7 : He.DefD := ⟨("_law_fits", none), "_law_fits", "_law_fits", defArgs (top 10), defBody (top 10), defScope (top 10), [], []⟩
def d8 : He.DefD := ⟨("_law_bent", none), "_law_bent", "_law_bent", defArgs (top 11), defBody (top 11), defScope (top 11), [], []⟩
def d9 : He.DefD := ⟨("_law_open", none), "_law_open", "_law_open", defArgs (top 12), defBody (top 12), defScope (top 12), [], []⟩
def d10 : He.DefD := ⟨("_law_step", none), "_law_step", "_law_step", defArgs (top 13), defBody (top 13), defScope (top 13), [], []⟩
def d11 : He.DefD := ⟨("_law_signs", none), "_law_signs", "_law_signs", defArgs (top 14), defBody (top 14), defScope (top 14), [], []⟩
def d12 : He.DefD := ⟨("_law_first", none), "_law_first", "_law_first", defArgs (top 15), defBody (top 15), defScope (top 15), [], []⟩
def d13 : He.DefD := ⟨("law", none), "law", "law", defArgs (top 16), defBody (top 16), defScope (top 16), [], []⟩
def fn : List He.DefD := [d0, d1, d2, d3, d4, d5, d6, d7, d8, d9, d10, d11, d12, d13]
def fa : List He.Fa := ([.glo "spread", .glo "stepped", .glo "is_done", .glo "covers", .glo "_law_deck", .glo "_law_pick", .glo "_law_mask", .glo "_law_fits", .glo "_law_bent", .glo "_law_open", .glo "_law_step", .glo "_law_signs", .glo "_law_first", .glo "law", .free "len", .free "range", .free "set", .free "sorted", .free "tuple", .str "SIGNS" ⟨#[48, 49, 50, 51, 52, 53, 54, 55, 56, 57, 64, 97, 98, 99, 100, 101, 102, 103, 104, 105, 106, 107, 108, 109, 110, 111, 112, 113, 114, 115, 116, 117, 118, 119, 120, 121, 122]⟩] : List He.Fa)
def names : List PySem.Str := (["spread", "stepped", "is_done", "covers", "_law_deck", "_law_pick", "_law_mask", "_law_fits", "_law_bent", "_law_open", "_law_step", "_law_signs", "_law_first", "SIGNS"] : List PySem.Str)
abbrev R : PySem.W.OpenRow := PySem.W.OpenLaw.row PySem.Challenge.rw_splitmoot_k03_whole_masks_covered
abbrev hk : PySem.W.Hook := He.hookD 4 fa fn
def M : Nat := 4000
def ob (s : PySem.W.SharedT) : He.AlD := He.obsDG 4 fa fn (HandSHeadRun.getT s)
theorem ob_eq (s : PySem.W.SharedT) : ob s = hk.obs s.abs := He.obsDG_eq (HandSHeadRun.getT_eq s)
theorem run (w : World) : HandSHeadRun.RunEq R (PySem.W.view R.prog [16]) hk ob M names w := by
  intro os
  kernel_rfl
end Hd
set_option maxHeartbeats 0
namespace Mp
namespace Pg
open PySem L2
def s0_0 : MS := (.as 2 .dnew)
def s0_1 : MS := (.seti 2 (.cp 3) (.c (.bl true)))
def s0_2 : MS := (.aug 3 .add (.c (.int 1)))
def b0_0 : MSs := (.cons s0_2 .nil)
def b0_1 : MSs := .nil
def s0_3 : MS := (.ife (.and (.op .lt (.cons (.bw 3) (.cons (.op .len (.cons (.bw 0) .nil)) .nil))) (.op .eq (.cons (.op .ix (.cons (.bw 0) (.cons (.bw 3) .nil))) (.cons (.c (.str [42])) .nil)))) b0_0 b0_1)
def b0_2 : MSs := (.cons s0_1 (.cons s0_3 .nil))
def s0_4 : MS := (.wh (.op .notin (.cons (.bw 3) (.cons (.bw 2) .nil))) b0_2)
def b0_3 : MSs := (.cons s0_4 .nil)
def s0_5 : MS := (.for (.nm 3) (.seq (.op .sorted (.cons (.bw 1) .nil))) b0_3)
def s0_6 : MS := (.ret (.op .tuple (.cons (.op .sorted (.cons (.bw 2) .nil)) .nil)))
def b0_4 : MSs := (.cons s0_0 (.cons s0_5 (.cons s0_6 .nil)))
def m0 : MD := ⟨4, 2, [], b0_4⟩
def s1_0 : MS := (.as 3 (.dsp false .nil))
def s1_1 : MS := (.app 3 (.cp 4))
def b1_0 : MSs := (.cons s1_1 .nil)
def s1_2 : MS := (.app 3 (.op .add (.cons (.bw 4) (.cons (.c (.int 1)) .nil))))
def b1_1 : MSs := (.cons s1_2 .nil)
def b1_2 : MSs := .nil
def s1_3 : MS := (.ife (.and (.op .lt (.cons (.bw 4) (.cons (.op .len (.cons (.bw 0) .nil)) .nil))) (.op .isin (.cons (.op .ix (.cons (.bw 0) (.cons (.bw 4) .nil))) (.cons (.dsp true (.cons (.c (.str [63])) (.cons (.cp 2) .nil))) .nil)))) b1_1 b1_2)
def b1_3 : MSs := (.cons s1_3 .nil)
def s1_4 : MS := (.ife (.and (.op .lt (.cons (.bw 4) (.cons (.op .len (.cons (.bw 0) .nil)) .nil))) (.op .eq (.cons (.op .ix (.cons (.bw 0) (.cons (.bw 4) .nil))) (.cons (.c (.str [42])) .nil)))) b1_0 b1_3)
def b1_4 : MSs := (.cons s1_4 .nil)
def s1_5 : MS := (.for (.nm 4) (.seq (.cp 1)) b1_4)
def s1_6 : MS := (.ret (.call 0 (.cons (.cp 0) (.cons (.sh 3) .nil))))
def b1_5 : MSs := (.cons s1_0 (.cons s1_5 (.cons s1_6 .nil)))
def m1 : MD := ⟨5, 3, [], b1_5⟩
def s2_0 : MS := (.ret (.op .isin (.cons (.op .len (.cons (.bw 0) .nil)) (.cons (.bw 1) .nil))))
def b2_0 : MSs := (.cons s2_0 .nil)
def m2 : MD := ⟨2, 2, [], b2_0⟩
def s3_0 : MS := (.as 2 (.op .ix (.cons (.lc [8] (.nm 8) (.seq (.gc ⟨#[83, 73, 71, 78, 83]⟩ (.str [48, 49, 50, 51, 52, 53, 54, 55, 56, 57, 64, 97, 98, 99, 100, 101, 102, 103, 104, 105, 106, 107, 108, 109, 110, 111, 112, 113, 114, 115, 116, 117, 118, 119, 120, 121, 122]))) (.op .notin (.cons (.bw 8) (.cons (.op .add (.cons (.bw 0) (.cons (.bw 1) .nil))) .nil))) (.cp 8)) (.cons (.c (.int 0)) .nil))))
def s3_1 : MS := (.as 3 (.lc [8] (.nm 8) (.seq (.gc ⟨#[83, 73, 71, 78, 83]⟩ (.str [48, 49, 50, 51, 52, 53, 54, 55, 56, 57, 64, 97, 98, 99, 100, 101, 102, 103, 104, 105, 106, 107, 108, 109, 110, 111, 112, 113, 114, 115, 116, 117, 118, 119, 120, 121, 122]))) (.or (.op .isin (.cons (.bw 8) (.cons (.op .add (.cons (.bw 0) (.cons (.bw 1) .nil))) .nil))) (.op .eq (.cons (.bw 8) (.cons (.bw 2) .nil)))) (.cp 8)))
def s3_2 : MS := (.as 4 (.dsp true (.cons (.call 0 (.cons (.cp 0) (.cons (.dsp false (.cons (.c (.int 0)) .nil)) .nil))) (.cons (.call 0 (.cons (.cp 1) (.cons (.dsp false (.cons (.c (.int 0)) .nil)) .nil))) .nil))))
def s3_3 : MS := (.as 5 (.d1 (.cp 4) (.c (.bl true))))
def s3_4 : MS := (.as 6 (.dsp false (.cons (.dsp true (.cons (.cp 4) (.cons (.c (.str [])) .nil))) .nil)))
def s3_5 : MS := (.as 7 (.c (.int 0)))
def s3_6 : MS := (.asN [11, 12] 9 (.op .ix (.cons (.bw 6) (.cons (.bw 7) .nil))))
def s3_7 : MS := (.aug 7 .add (.c (.int 1)))
def s3_8 : MS := (.ret (.mv 9))
def b3_0 : MSs := (.cons s3_8 .nil)
def b3_1 : MSs := .nil
def s3_9 : MS := (.ife (.and (.call 2 (.cons (.cp 1) (.cons (.cp 12) .nil))) (.not (.call 2 (.cons (.cp 0) (.cons (.cp 11) .nil))))) b3_0 b3_1)
def s3_10 : MS := (.as 10 (.dsp true (.cons (.call 1 (.cons (.cp 0) (.cons (.cp 11) (.cons (.cp 8) .nil)))) (.cons (.call 1 (.cons (.cp 1) (.cons (.cp 12) (.cons (.cp 8) .nil)))) .nil))))
def s3_11 : MS := (.seti 5 (.cp 10) (.c (.bl true)))
def s3_12 : MS := (.app 6 (.dsp true (.cons (.cp 10) (.cons (.op .add (.cons (.bw 9) (.cons (.bw 8) .nil))) .nil))))
def b3_2 : MSs := (.cons s3_11 (.cons s3_12 .nil))
def b3_3 : MSs := .nil
def s3_13 : MS := (.ife (.and (.op .ne (.cons (.op .ix (.cons (.bw 10) (.cons (.c (.int 1)) .nil))) (.cons (.dsp true .nil) .nil))) (.op .notin (.cons (.bw 10) (.cons (.bw 5) .nil)))) b3_2 b3_3)
def b3_4 : MSs := (.cons s3_10 (.cons s3_13 .nil))
def s3_14 : MS := (.for (.nm 8) (.seq (.sh 3)) b3_4)
def b3_5 : MSs := (.cons s3_6 (.cons s3_7 (.cons s3_9 (.cons s3_14 .nil))))
def s3_15 : MS := (.wh (.op .lt (.cons (.bw 7) (.cons (.op .len (.cons (.bw 6) .nil)) .nil))) b3_5)
def s3_16 : MS := (.ret (.c .non))
def b3_6 : MSs := (.cons s3_0 (.cons s3_1 (.cons s3_2 (.cons s3_3 (.cons s3_4 (.cons s3_5 (.cons s3_15 (.cons s3_16 .nil))))))))
def m3 : MD := ⟨13, 2, [], b3_6⟩
def s4_0 : MS := (.ret (.dsp false (.cons (.op .sub (.cons (.bw 0) (.cons (.op .pow (.cons (.c (.int 10)) (.cons (.c (.int 18)) .nil))) .nil))) (.cons (.op .md (.cons (.bw 0) (.cons (.c (.int 2147483579)) .nil))) (.cons (.cp 1) .nil)))))
def b4_0 : MSs := (.cons s4_0 .nil)
def b4_1 : MSs := .nil
def s4_1 : MS := (.ife (.op .ge (.cons (.bw 0) (.cons (.op .pow (.cons (.c (.int 10)) (.cons (.c (.int 18)) .nil))) .nil))) b4_0 b4_1)
def s4_2 : MS := (.ret (.dsp false (.cons (.c (.int 0)) (.cons (.op .md (.cons (.bw 0) (.cons (.c (.int 2147483579)) .nil))) (.cons (.cp 1) .nil)))))
def b4_2 : MSs := (.cons s4_1 (.cons s4_2 .nil))
def m4 : MD := ⟨2, 2, [], b4_2⟩
def s5_0 : MS := (.as 3 (.op .md (.cons (.op .ix (.cons (.bw 0) (.cons (.c (.int 0)) .nil))) (.cons (.bw 1) .nil))))
def s5_1 : MS := (.seti 0 (.c (.int 0)) (.op .fdiv (.cons (.op .ix (.cons (.bw 0) (.cons (.c (.int 0)) .nil))) (.cons (.bw 1) .nil))))
def s5_2 : MS := (.ret (.mv 3))
def b5_0 : MSs := (.cons s5_0 (.cons s5_1 (.cons s5_2 .nil)))
def b5_1 : MSs := .nil
def s5_3 : MS := (.ife (.op .gt (.cons (.op .ix (.cons (.bw 0) (.cons (.c (.int 0)) .nil))) (.cons (.c (.int 1)) .nil))) b5_0 b5_1)
def s5_4 : MS := (.seti 0 (.c (.int 2)) (.op .add (.cons (.op .ix (.cons (.bw 0) (.cons (.c (.int 2)) .nil))) (.cons (.c (.int 1)) .nil))))
def s5_5 : MS := (.as 2 (.op .md (.cons (.op .pow (.cons (.op .add (.cons (.op .ix (.cons (.bw 0) (.cons (.c (.int 1)) .nil))) (.cons (.op .mul (.cons (.c (.int 15485867)) (.cons (.op .ix (.cons (.bw 0) (.cons (.c (.int 2)) .nil))) .nil))) .nil))) (.cons (.c (.int 5)) .nil))) (.cons (.c (.int 2147483647)) .nil))))
def s5_6 : MS := (.as 3 (.op .fdiv (.cons (.op .md (.cons (.op .pow (.cons (.op .add (.cons (.bw 2) (.cons (.op .mul (.cons (.c (.int 7919)) (.cons (.op .ix (.cons (.bw 0) (.cons (.c (.int 2)) .nil))) .nil))) .nil))) (.cons (.c (.int 3)) .nil))) (.cons (.c (.int 2147483629)) .nil))) (.cons (.c (.int 32)) .nil))))
def s5_7 : MS := (.ret (.op .md (.cons (.op .add (.cons (.op .mul (.cons (.bw 3) (.cons (.c (.int 2147483563)) .nil))) (.cons (.bw 2) .nil))) (.cons (.bw 1) .nil))))
def b5_2 : MSs := (.cons s5_7 .nil)
def b5_3 : MSs := .nil
def s5_8 : MS := (.ife (.op .gt (.cons (.bw 1) (.cons (.c (.int 1000000)) .nil))) b5_2 b5_3)
def s5_9 : MS := (.ret (.op .md (.cons (.bw 3) (.cons (.bw 1) .nil))))
def b5_4 : MSs := (.cons s5_3 (.cons s5_4 (.cons s5_5 (.cons s5_6 (.cons s5_8 (.cons s5_9 .nil))))))
def m5 : MD := ⟨4, 2, [0], b5_4⟩
def s6_0 : MS := (.as 2 (.op (.sl false true) (.cons (.dsp false (.cons (.c (.str [97])) (.cons (.c (.str [98])) (.cons (.c (.str [42])) (.cons (.c (.str [63])) (.cons (.c (.str [64])) (.cons (.c (.str [48])) .nil))))))) (.cons (.op .ix (.cons (.dsp false (.cons (.c (.int 4)) (.cons (.c (.int 4)) (.cons (.c (.int 6)) .nil)))) (.cons (.call 5 (.cons (.bm 0) (.cons (.c (.int 3)) .nil))) .nil))) .nil))))
def s6_1 : MS := (.as 3 (.c (.str [])))
def s6_2 : MS := (.as 3 (.op .add (.cons (.bw 3) (.cons (.op .ix (.cons (.bw 2) (.cons (.call 5 (.cons (.bm 0) (.cons (.op .len (.cons (.bw 2) .nil)) .nil))) .nil))) .nil))))
def b6_0 : MSs := (.cons s6_2 .nil)
def s6_3 : MS := (.for (.nm 4) (.rng1 (.op .add (.cons (.c (.int 1)) (.cons (.call 5 (.cons (.bm 0) (.cons (.cp 1) .nil))) .nil)))) b6_0)
def s6_4 : MS := (.ret (.mv 3))
def b6_1 : MSs := (.cons s6_0 (.cons s6_1 (.cons s6_3 (.cons s6_4 .nil))))
def m6 : MD := ⟨5, 2, [0], b6_1⟩
def s7_0 : MS := (.as 2 (.op .add (.cons (.dsp false (.cons (.c (.bl true)) .nil)) (.cons (.op .mul (.cons (.dsp false (.cons (.c (.bl false)) .nil)) (.cons (.op .len (.cons (.bw 1) .nil)) .nil))) .nil))))
def s7_1 : MS := (.as 4 (.dsp false (.cons (.and (.op .eq (.cons (.bw 3) (.cons (.c (.str [42])) .nil))) (.op .ix (.cons (.bw 2) (.cons (.c (.int 0)) .nil)))) .nil)))
def s7_2 : MS := (.app 4 (.or (.op .ix (.cons (.bw 2) (.cons (.op .add (.cons (.bw 5) (.cons (.c (.int 1)) .nil))) .nil))) (.op .ix (.cons (.bw 4) (.cons (.bw 5) .nil)))))
def b7_0 : MSs := (.cons s7_2 .nil)
def s7_3 : MS := (.app 4 (.and (.op .ix (.cons (.bw 2) (.cons (.bw 5) .nil))) (.op .isin (.cons (.bw 3) (.cons (.dsp true (.cons (.c (.str [63])) (.cons (.op .ix (.cons (.bw 1) (.cons (.bw 5) .nil))) .nil))) .nil)))))
def b7_1 : MSs := (.cons s7_3 .nil)
def s7_4 : MS := (.ife (.op .eq (.cons (.bw 3) (.cons (.c (.str [42])) .nil))) b7_0 b7_1)
def b7_2 : MSs := (.cons s7_4 .nil)
def s7_5 : MS := (.for (.nm 5) (.rng1 (.op .len (.cons (.bw 1) .nil))) b7_2)
def s7_6 : MS := (.as 2 (.sh 4))
def b7_3 : MSs := (.cons s7_1 (.cons s7_5 (.cons s7_6 .nil)))
def s7_7 : MS := (.for (.nm 3) (.seq (.cp 0)) b7_3)
def s7_8 : MS := (.ret (.op .ix (.cons (.bw 2) (.cons (.op .len (.cons (.bw 1) .nil)) .nil))))
def b7_4 : MSs := (.cons s7_0 (.cons s7_7 (.cons s7_8 .nil)))
def m7 : MD := ⟨6, 2, [], b7_4⟩
def s8_0 : MS := (.as 2 (.call 5 (.cons (.bm 0) (.cons (.op .add (.cons (.op .len (.cons (.bw 1) .nil)) (.cons (.c (.int 1)) .nil))) .nil))))
def s8_1 : MS := (.as 3 (.dsp false (.cons (.op .add (.cons (.op .add (.cons (.op (.sl false true) (.cons (.bw 1) (.cons (.cp 2) .nil))) (.cons (.c (.str [42])) .nil))) (.cons (.op (.sl true false) (.cons (.bw 1) (.cons (.cp 2) .nil))) .nil))) (.cons (.op .add (.cons (.op .add (.cons (.op (.sl false true) (.cons (.bw 1) (.cons (.cp 2) .nil))) (.cons (.c (.str [63])) .nil))) (.cons (.op (.sl true false) (.cons (.bw 1) (.cons (.op .add (.cons (.bw 2) (.cons (.c (.int 1)) .nil))) .nil))) .nil))) (.cons (.op .add (.cons (.op (.sl false true) (.cons (.bw 1) (.cons (.cp 2) .nil))) (.cons (.op (.sl true false) (.cons (.bw 1) (.cons (.op .add (.cons (.bw 2) (.cons (.c (.int 1)) .nil))) .nil))) .nil))) (.cons (.op .add (.cons (.bw 1) (.cons (.c (.str [97])) .nil))) (.cons (.c (.str [42])) .nil)))))))
def s8_2 : MS := (.as 4 (.op .ix (.cons (.bw 3) (.cons (.call 5 (.cons (.bm 0) (.cons (.c (.int 5)) .nil))) .nil))))
def s8_3 : MS := (.ret (.ife (.op .ne (.cons (.bw 4) (.cons (.c (.str [])) .nil))) (.mv 4) (.mv 1)))
def b8_0 : MSs := (.cons s8_0 (.cons s8_1 (.cons s8_2 (.cons s8_3 .nil))))
def m8 : MD := ⟨5, 2, [0], b8_0⟩
def s9_0 : MS := (.as 2 (.dsp false .nil))
def s9_1 : MS := (.app 2 (.cp 3))
def s9_2 : MS := (.as 3 (.op .add (.cons (.bw 3) (.cons (.c (.int 1)) .nil))))
def b9_0 : MSs := (.cons s9_2 .nil)
def b9_1 : MSs := .nil
def s9_3 : MS := (.ife (.and (.op .lt (.cons (.bw 3) (.cons (.op .len (.cons (.bw 0) .nil)) .nil))) (.op .eq (.cons (.op .ix (.cons (.bw 0) (.cons (.bw 3) .nil))) (.cons (.c (.str [42])) .nil)))) b9_0 b9_1)
def b9_2 : MSs := (.cons s9_1 (.cons s9_3 .nil))
def s9_4 : MS := (.wh (.op .notin (.cons (.bw 3) (.cons (.bw 2) .nil))) b9_2)
def b9_3 : MSs := (.cons s9_4 .nil)
def s9_5 : MS := (.for (.nm 3) (.seq (.op .sorted (.cons (.bw 1) .nil))) b9_3)
def s9_6 : MS := (.ret (.op .tuple (.cons (.op .sorted (.cons (.bw 2) .nil)) .nil)))
def b9_4 : MSs := (.cons s9_0 (.cons s9_5 (.cons s9_6 .nil)))
def m9 : MD := ⟨4, 2, [], b9_4⟩
def s10_0 : MS := (.as 3 (.lc [4] (.nm 4) (.seq (.cp 1)) (.and (.op .lt (.cons (.bw 4) (.cons (.op .len (.cons (.bw 0) .nil)) .nil))) (.op .eq (.cons (.op .ix (.cons (.bw 0) (.cons (.bw 4) .nil))) (.cons (.c (.str [42])) .nil)))) (.cp 4)))
def s10_1 : MS := (.as 3 (.op .add (.cons (.bw 3) (.cons (.lc [4] (.nm 4) (.seq (.cp 1)) (.and (.op .lt (.cons (.bw 4) (.cons (.op .len (.cons (.bw 0) .nil)) .nil))) (.op .isin (.cons (.op .ix (.cons (.bw 0) (.cons (.bw 4) .nil))) (.cons (.dsp true (.cons (.c (.str [63])) (.cons (.cp 2) .nil))) .nil)))) (.op .add (.cons (.bw 4) (.cons (.c (.int 1)) .nil)))) .nil))))
def s10_2 : MS := (.ret (.call 9 (.cons (.cp 0) (.cons (.sh 3) .nil))))
def b10_0 : MSs := (.cons s10_0 (.cons s10_1 (.cons s10_2 .nil)))
def m10 : MD := ⟨5, 3, [], b10_0⟩
def s11_0 : MS := (.as 2 (.op .ix (.cons (.lc [3] (.nm 3) (.seq (.c (.str [48, 49, 50, 51, 52, 53, 54, 55, 56, 57, 64, 97, 98, 99, 100, 101, 102, 103, 104, 105, 106, 107, 108, 109, 110, 111, 112, 113, 114, 115, 116, 117, 118, 119, 120, 121, 122]))) (.op .notin (.cons (.bw 3) (.cons (.op .add (.cons (.bw 0) (.cons (.bw 1) .nil))) .nil))) (.cp 3)) (.cons (.c (.int 0)) .nil))))
def s11_1 : MS := (.ret (.op .sset (.cons (.op .add (.cons (.lc [3] (.nm 3) (.seq (.op .add (.cons (.bw 0) (.cons (.bw 1) .nil)))) (.op .notin (.cons (.bw 3) (.cons (.c (.str [42, 63])) .nil))) (.cp 3)) (.cons (.dsp false (.cons (.cp 2) .nil)) .nil))) .nil)))
def b11_0 : MSs := (.cons s11_0 (.cons s11_1 .nil))
def m11 : MD := ⟨4, 2, [], b11_0⟩
def s12_0 : MS := (.as 2 (.dsp true (.cons (.call 9 (.cons (.cp 0) (.cons (.dsp false (.cons (.c (.int 0)) .nil)) .nil))) (.cons (.call 9 (.cons (.cp 1) (.cons (.dsp false (.cons (.c (.int 0)) .nil)) .nil))) .nil))))
def s12_1 : MS := (.as 3 (.d1 (.cp 2) (.c (.str []))))
def s12_2 : MS := (.as 4 (.dsp false (.cons (.cp 2) .nil)))
def s12_3 : MS := (.as 5 (.c (.int 0)))
def s12_4 : MS := (.asT [7, 8] (.op .ix (.cons (.bw 4) (.cons (.bw 5) .nil))))
def s12_5 : MS := (.as 5 (.op .add (.cons (.bw 5) (.cons (.c (.int 1)) .nil))))
def s12_6 : MS := (.ret (.op .ix (.cons (.bw 3) (.cons (.dsp true (.cons (.cp 7) (.cons (.cp 8) .nil))) .nil))))
def b12_0 : MSs := (.cons s12_6 .nil)
def b12_1 : MSs := .nil
def s12_7 : MS := (.ife (.and (.op .isin (.cons (.op .len (.cons (.bw 1) .nil)) (.cons (.bw 8) .nil))) (.op .notin (.cons (.op .len (.cons (.bw 0) .nil)) (.cons (.bw 7) .nil)))) b12_0 b12_1)
def s12_8 : MS := (.as 9 (.dsp true (.cons (.call 10 (.cons (.cp 0) (.cons (.cp 7) (.cons (.cp 6) .nil)))) (.cons (.call 10 (.cons (.cp 1) (.cons (.cp 8) (.cons (.cp 6) .nil)))) .nil))))
def s12_9 : MS := (.seti 3 (.cp 9) (.op .add (.cons (.op .ix (.cons (.bw 3) (.cons (.dsp true (.cons (.cp 7) (.cons (.cp 8) .nil))) .nil))) (.cons (.bw 6) .nil))))
def s12_10 : MS := (.app 4 (.cp 9))
def b12_2 : MSs := (.cons s12_9 (.cons s12_10 .nil))
def b12_3 : MSs := .nil
def s12_11 : MS := (.ife (.op .notin (.cons (.bw 9) (.cons (.bw 3) .nil))) b12_2 b12_3)
def b12_4 : MSs := (.cons s12_8 (.cons s12_11 .nil))
def s12_12 : MS := (.for (.nm 6) (.seq (.call 11 (.cons (.cp 0) (.cons (.cp 1) .nil)))) b12_4)
def b12_5 : MSs := (.cons s12_4 (.cons s12_5 (.cons s12_7 (.cons s12_12 .nil))))
def s12_13 : MS := (.wh (.op .lt (.cons (.bw 5) (.cons (.op .len (.cons (.bw 4) .nil)) .nil))) b12_5)
def s12_14 : MS := (.ret (.c .non))
def b12_6 : MSs := (.cons s12_0 (.cons s12_1 (.cons s12_2 (.cons s12_3 (.cons s12_13 (.cons s12_14 .nil))))))
def m12 : MD := ⟨10, 2, [], b12_6⟩
def s13_0 : MS := (.ret (.c (.bl false)))
def b13_0 : MSs := (.cons s13_0 .nil)
def b13_1 : MSs := .nil
def s13_1 : MS := (.ife (.or (.op .notN (.cons (.call 3 (.cons (.c (.str [42, 97, 42, 98, 42, 99, 42])) (.cons (.c (.str [42, 97, 98, 63, 63, 99, 42, 97, 42])) .nil))) .nil)) (.op .ne (.cons (.call 3 (.cons (.c (.str [42, 97, 98, 42])) (.cons (.c (.str [42, 97, 63, 98, 42])) .nil))) (.cons (.c (.str [97, 48, 98])) .nil)))) b13_0 b13_1)
def s13_2 : MS := (.ret (.c (.bl false)))
def b13_2 : MSs := (.cons s13_2 .nil)
def b13_3 : MSs := .nil
def s13_3 : MS := (.ife (.op .ne (.cons (.call 3 (.cons (.c (.str [42, 97, 97, 97, 97, 97, 97, 97, 97, 97, 97, 42])) (.cons (.c (.str [42, 97, 97, 97, 97, 97, 42, 97, 97, 97, 97, 97])) .nil))) (.cons (.c (.str [97, 97, 97, 97, 97, 48, 97, 97, 97, 97, 97])) .nil))) b13_2 b13_3)
def s13_4 : MS := (.as 2 (.call 4 (.cons (.cp 1) (.cons (.c (.int 0)) .nil))))
def s13_5 : MS := (.as 3 (.call 6 (.cons (.bm 2) (.cons (.c (.int 6)) .nil))))
def s13_6 : MS := (.as 4 (.op .ix (.cons (.dsp false (.cons (.call 6 (.cons (.bm 2) (.cons (.c (.int 6)) .nil))) (.cons (.call 8 (.cons (.bm 2) (.cons (.cp 3) .nil))) (.cons (.cp 3) .nil)))) (.cons (.call 5 (.cons (.bm 2) (.cons (.c (.int 3)) .nil))) .nil))))
def s13_7 : MS := (.as 7 (.call 3 (.cons (.cp 5) (.cons (.cp 6) .nil))))
def s13_8 : MS := (.ret (.c (.bl false)))
def b13_4 : MSs := (.cons s13_8 .nil)
def b13_5 : MSs := .nil
def s13_9 : MS := (.ife (.op .ne (.cons (.bw 7) (.cons (.call 12 (.cons (.cp 5) (.cons (.cp 6) .nil))) .nil))) b13_4 b13_5)
def s13_10 : MS := (.ret (.c (.bl false)))
def b13_6 : MSs := (.cons s13_10 .nil)
def b13_7 : MSs := .nil
def s13_11 : MS := (.ife (.and (.op .notN (.cons (.bw 7) .nil)) (.or (.call 7 (.cons (.cp 5) (.cons (.cp 7) .nil))) (.not (.call 7 (.cons (.cp 6) (.cons (.cp 7) .nil)))))) b13_6 b13_7)
def s13_12 : MS := (.as 8 (.dsp false (.cons (.c (.str [])) .nil)))
def s13_13 : MS := (.as 10 (.dsp false .nil))
def s13_14 : MS := .cnt
def b13_8 : MSs := (.cons s13_14 .nil)
def b13_9 : MSs := .nil
def s13_15 : MS := (.ife (.and (.op .notN (.cons (.bw 7) .nil)) (.op .ge (.cons (.dsp true (.cons (.op .len (.cons (.bw 11) .nil)) (.cons (.cp 11) .nil))) (.cons (.dsp true (.cons (.op .len (.cons (.bw 7) .nil)) (.cons (.cp 7) .nil))) .nil)))) b13_8 b13_9)
def s13_16 : MS := (.ret (.c (.bl false)))
def b13_10 : MSs := (.cons s13_16 .nil)
def b13_11 : MSs := .nil
def s13_17 : MS := (.ife (.and (.call 7 (.cons (.cp 6) (.cons (.cp 11) .nil))) (.not (.call 7 (.cons (.cp 5) (.cons (.cp 11) .nil))))) b13_10 b13_11)
def s13_18 : MS := (.as 10 (.op .add (.cons (.bw 10) (.cons (.lc [12] (.nm 12) (.seq (.call 11 (.cons (.cp 5) (.cons (.cp 6) .nil)))) (.c (.bl true)) (.op .add (.cons (.bw 11) (.cons (.bw 12) .nil)))) .nil))))
def b13_12 : MSs := (.cons s13_15 (.cons s13_17 (.cons s13_18 .nil)))
def s13_19 : MS := (.for (.nm 11) (.seq (.sh 8)) b13_12)
def s13_20 : MS := (.as 8 (.op (.sl false true) (.cons (.bw 10) (.cons (.c (.int 120)) .nil))))
def b13_13 : MSs := (.cons s13_13 (.cons s13_19 (.cons s13_20 .nil)))
def s13_21 : MS := (.for (.nm 9) (.rng1 (.c (.int 4))) b13_13)
def b13_14 : MSs := (.cons s13_7 (.cons s13_9 (.cons s13_11 (.cons s13_12 (.cons s13_21 .nil)))))
def s13_22 : MS := (.for (.tp [5, 6]) (.seq (.dsp false (.cons (.dsp true (.cons (.cp 3) (.cons (.cp 4) .nil))) (.cons (.dsp true (.cons (.cp 4) (.cons (.cp 3) .nil))) .nil)))) b13_14)
def b13_15 : MSs := (.cons s13_4 (.cons s13_5 (.cons s13_6 (.cons s13_22 .nil))))
def s13_23 : MS := (.for (.nm 1) (.seq (.op .add (.cons (.dsp false (.cons (.c (.int 0)) .nil)) (.cons (.op (.sl false true) (.cons (.bw 0) (.cons (.c (.int 4)) .nil))) .nil)))) b13_15)
def s13_24 : MS := (.ret (.c (.bl true)))
def b13_16 : MSs := (.cons s13_1 (.cons s13_3 (.cons s13_23 (.cons s13_24 .nil))))
def m13 : MD := ⟨13, 1, [], b13_16⟩
def p0 : DT := ⟨m0, "spread", ["mask", "places"], ["mask", "places", "found", "place"], defArgs (Hd.top 2), defBody (Hd.top 2), defScope (Hd.top 2)⟩
def p1 : DT := ⟨m1, "stepped", ["mask", "places", "sign"], ["mask", "places", "sign", "found", "place"], defArgs (Hd.top 3), defBody (Hd.top 3), defScope (Hd.top 3)⟩
def p2 : DT := ⟨m2, "is_done", ["mask", "places"], ["mask", "places"], defArgs (Hd.top 4), defBody (Hd.top 4), defScope (Hd.top 4)⟩
def p3 : DT := ⟨m3, "covers", ["mask", "other"], ["mask", "other", "spare", "signs", "start", "met", "line", "at", "sign", "word", "there", "own", "others"], defArgs (Hd.top 5), defBody (Hd.top 5), defScope (Hd.top 5)⟩
def p4 : DT := ⟨m4, "_law_deck", ["_law_cell", "_law_turn"], ["_law_cell", "_law_turn"], defArgs (Hd.top 7), defBody (Hd.top 7), defScope (Hd.top 7)⟩
def p5 : DT := ⟨m5, "_law_pick", ["_law_deck_here", "_law_many"], ["_law_deck_here", "_law_many", "_law_number", "_law_found"], defArgs (Hd.top 8), defBody (Hd.top 8), defScope (Hd.top 8)⟩
def p6 : DT := ⟨m6, "_law_mask", ["_law_deck_here", "_law_most"], ["_law_deck_here", "_law_most", "_law_signs_here", "_law_found", "_law_k"], defArgs (Hd.top 9), defBody (Hd.top 9), defScope (Hd.top 9)⟩
def p7 : DT := ⟨m7, "_law_fits", ["_law_mask_here", "_law_word"], ["_law_mask_here", "_law_word", "_law_row", "_law_one", "_law_later", "_law_k"], defArgs (Hd.top 10), defBody (Hd.top 10), defScope (Hd.top 10)⟩
def p8 : DT := ⟨m8, "_law_bent", ["_law_deck_here", "_law_mask_here"], ["_law_deck_here", "_law_mask_here", "_law_at", "_law_some", "_law_found"], defArgs (Hd.top 11), defBody (Hd.top 11), defScope (Hd.top 11)⟩
def p9 : DT := ⟨m9, "_law_open", ["_law_mask_here", "_law_places"], ["_law_mask_here", "_law_places", "_law_found", "_law_place"], defArgs (Hd.top 12), defBody (Hd.top 12), defScope (Hd.top 12)⟩
def p10 : DT := ⟨m10, "_law_step", ["_law_mask_here", "_law_places", "_law_sign"], ["_law_mask_here", "_law_places", "_law_sign", "_law_found", "_law_place"], defArgs (Hd.top 13), defBody (Hd.top 13), defScope (Hd.top 13)⟩
def p11 : DT := ⟨m11, "_law_signs", ["_law_mask_here", "_law_other"], ["_law_mask_here", "_law_other", "_law_spare", "_law_sign"], defArgs (Hd.top 14), defBody (Hd.top 14), defScope (Hd.top 14)⟩
def p12 : DT := ⟨m12, "_law_first", ["_law_mask_here", "_law_other"], ["_law_mask_here", "_law_other", "_law_start", "_law_met", "_law_line", "_law_at", "_law_sign", "_law_own", "_law_others", "_law_there"], defArgs (Hd.top 15), defBody (Hd.top 15), defScope (Hd.top 15)⟩
def p13 : DT := ⟨m13, "law", ["_law_script"], ["_law_script", "_law_cell", "_law_deck_here", "_law_one", "_law_other", "_law_mask_here", "_law_second", "_law_told", "_law_words", "_law_turn", "_law_longer", "_law_word", "_law_sign"], defArgs (Hd.top 16), defBody (Hd.top 16), defScope (Hd.top 16)⟩
def tab : List DT := [p0, p1, p2, p3, p4, p5, p6, p7, p8, p9, p10, p11, p12, p13]
def cs : List (PySem.Str × D) := [("SIGNS", (.str [48, 49, 50, 51, 52, 53, 54, 55, 56, 57, 64, 97, 98, 99, 100, 101, 102, 103, 104, 105, 106, 107, 108, 109, 110, 111, 112, 113, 114, 115, 116, 117, 118, 119, 120, 121, 122]))]
def bl : List PySem.Str := ["len", "range", "set", "sorted", "tuple"]
theorem ck0 : chkD (fnsOf tab) cs bl p0 = true := by kernel_rfl
theorem ck1 : chkD (fnsOf tab) cs bl p1 = true := by kernel_rfl
theorem ck2 : chkD (fnsOf tab) cs bl p2 = true := by kernel_rfl
theorem ck3 : chkD (fnsOf tab) cs bl p3 = true := by kernel_rfl
theorem ck4 : chkD (fnsOf tab) cs bl p4 = true := by kernel_rfl
theorem ck5 : chkD (fnsOf tab) cs bl p5 = true := by kernel_rfl
theorem ck6 : chkD (fnsOf tab) cs bl p6 = true := by kernel_rfl
theorem ck7 : chkD (fnsOf tab) cs bl p7 = true := by kernel_rfl
theorem ck8 : chkD (fnsOf tab) cs bl p8 = true := by kernel_rfl
theorem ck9 : chkD (fnsOf tab) cs bl p9 = true := by kernel_rfl
theorem ck10 : chkD (fnsOf tab) cs bl p10 = true := by kernel_rfl
theorem ck11 : chkD (fnsOf tab) cs bl p11 = true := by kernel_rfl
theorem ck12 : chkD (fnsOf tab) cs bl p12 = true := by kernel_rfl
theorem ck13 : chkD (fnsOf tab) cs bl p13 = true := by kernel_rfl
theorem chk : ∀ d ∈ tab, chkD (fnsOf tab) cs bl d = true := fun d hd => by
  simp only [tab, List.mem_cons, List.not_mem_nil, or_false] at hd
  rcases hd with rfl | rfl | rfl | rfl | rfl | rfl | rfl | rfl | rfl | rfl | rfl | rfl | rfl | rfl
  · exact ck0
  · exact ck1
  · exact ck2
  · exact ck3
  · exact ck4
  · exact ck5
  · exact ck6
  · exact ck7
  · exact ck8
  · exact ck9
  · exact ck10
  · exact ck11
  · exact ck12
  · exact ck13
theorem facts {P : Program} {w : World} {K : PySem.W.Frag} {h : Heap} {mg : PySem.Str → Option Value} {f : Addr} (X : K.In h) (G : h.Ns mainGlobals mg) (hfa : mg ("law" : PySem.Str) = some (.ref f)) (c : He.SaysD Hd.fa Hd.fn K) :
    ∃ fd : FuncData, (∀ (s : Shared) (v : Value), BindsTo s fd ⟨[v], []⟩ [("_law_script", v)]) ∧ ∀ base : Heap, K.In base → base.Ns mainGlobals mg → FnOk P w K mg base CX0 10 f fd ["_law_script"] (spOf ⟨K, w⟩ (mcall 100000000 (tabOf tab) 10) 13) := by
  obtain ⟨fd0, F0⟩ := c.def_ 0 (d := Hd.d0) rfl
  obtain ⟨fd1, F1⟩ := c.def_ 1 (d := Hd.d1) rfl
  obtain ⟨fd2, F2⟩ := c.def_ 2 (d := Hd.d2) rfl
  obtain ⟨fd3, F3⟩ := c.def_ 3 (d := Hd.d3) rfl
  obtain ⟨fd4, F4⟩ := c.def_ 4 (d := Hd.d4) rfl
  obtain ⟨fd5, F5⟩ := c.def_ 5 (d := Hd.d5) rfl
  obtain ⟨fd6, F6⟩ := c.def_ 6 (d := Hd.d6) rfl
  obtain ⟨fd7, F7⟩ := c.def_ 7 (d := Hd.d7) rfl
  obtain ⟨fd8, F8⟩ := c.def_ 8 (d := Hd.d8) rfl
  obtain ⟨fd9, F9⟩ := c.def_ 9 (d := Hd.d9) rfl
  obtain ⟨fd10, F10⟩ := c.def_ 10 (d := Hd.d10) rfl
  obtain ⟨fd11, F11⟩ := c.def_ 11 (d := Hd.d11) rfl
  obtain ⟨fd12, F12⟩ := c.def_ 12 (d := Hd.d12) rfl
  obtain ⟨fd13, F13⟩ := c.def_ 13 (d := Hd.d13) rfl
  have b0 : Binds K fd0 p0.ps [] := F0.bindsN fun _ _ _ _ _ _ us hl => match us, hl with | [_, _], _ => rfl
  have o0 : DefOk K mg p0 := ⟨_, fd0, He.glo_ok X G (c.fact 0 (f := .glo "spread") rfl), F0, b0⟩
  have b1 : Binds K fd1 p1.ps [] := F1.bindsN fun _ _ _ _ _ _ us hl => match us, hl with | [_, _, _], _ => rfl
  have o1 : DefOk K mg p1 := ⟨_, fd1, He.glo_ok X G (c.fact 1 (f := .glo "stepped") rfl), F1, b1⟩
  have b2 : Binds K fd2 p2.ps [] := F2.bindsN fun _ _ _ _ _ _ us hl => match us, hl with | [_, _], _ => rfl
  have o2 : DefOk K mg p2 := ⟨_, fd2, He.glo_ok X G (c.fact 2 (f := .glo "is_done") rfl), F2, b2⟩
  have b3 : Binds K fd3 p3.ps [] := F3.bindsN fun _ _ _ _ _ _ us hl => match us, hl with | [_, _], _ => rfl
  have o3 : DefOk K mg p3 := ⟨_, fd3, He.glo_ok X G (c.fact 3 (f := .glo "covers") rfl), F3, b3⟩
  have b4 : Binds K fd4 p4.ps [] := F4.bindsN fun _ _ _ _ _ _ us hl => match us, hl with | [_, _], _ => rfl
  have o4 : DefOk K mg p4 := ⟨_, fd4, He.glo_ok X G (c.fact 4 (f := .glo "_law_deck") rfl), F4, b4⟩
  have b5 : Binds K fd5 p5.ps [] := F5.bindsN fun _ _ _ _ _ _ us hl => match us, hl with | [_, _], _ => rfl
  have o5 : DefOk K mg p5 := ⟨_, fd5, He.glo_ok X G (c.fact 5 (f := .glo "_law_pick") rfl), F5, b5⟩
  have b6 : Binds K fd6 p6.ps [] := F6.bindsN fun _ _ _ _ _ _ us hl => match us, hl with | [_, _], _ => rfl
  have o6 : DefOk K mg p6 := ⟨_, fd6, He.glo_ok X G (c.fact 6 (f := .glo "_law_mask") rfl), F6, b6⟩
  have b7 : Binds K fd7 p7.ps [] := F7.bindsN fun _ _ _ _ _ _ us hl => match us, hl with | [_, _], _ => rfl
  have o7 : DefOk K mg p7 := ⟨_, fd7, He.glo_ok X G (c.fact 7 (f := .glo "_law_fits") rfl), F7, b7⟩
  have b8 : Binds K fd8 p8.ps [] := F8.bindsN fun _ _ _ _ _ _ us hl => match us, hl with | [_, _], _ => rfl
  have o8 : DefOk K mg p8 := ⟨_, fd8, He.glo_ok X G (c.fact 8 (f := .glo "_law_bent") rfl), F8, b8⟩
  have b9 : Binds K fd9 p9.ps [] := F9.bindsN fun _ _ _ _ _ _ us hl => match us, hl with | [_, _], _ => rfl
  have o9 : DefOk K mg p9 := ⟨_, fd9, He.glo_ok X G (c.fact 9 (f := .glo "_law_open") rfl), F9, b9⟩
  have b10 : Binds K fd10 p10.ps [] := F10.bindsN fun _ _ _ _ _ _ us hl => match us, hl with | [_, _, _], _ => rfl
  have o10 : DefOk K mg p10 := ⟨_, fd10, He.glo_ok X G (c.fact 10 (f := .glo "_law_step") rfl), F10, b10⟩
  have b11 : Binds K fd11 p11.ps [] := F11.bindsN fun _ _ _ _ _ _ us hl => match us, hl with | [_, _], _ => rfl
  have o11 : DefOk K mg p11 := ⟨_, fd11, He.glo_ok X G (c.fact 11 (f := .glo "_law_signs") rfl), F11, b11⟩
  have b12 : Binds K fd12 p12.ps [] := F12.bindsN fun _ _ _ _ _ _ us hl => match us, hl with | [_, _], _ => rfl
  have o12 : DefOk K mg p12 := ⟨_, fd12, He.glo_ok X G (c.fact 12 (f := .glo "_law_first") rfl), F12, b12⟩
  have b13 : Binds K fd13 p13.ps [] := F13.bindsN fun _ _ _ _ _ _ us hl => match us, hl with | [_], _ => rfl
  have o13 : DefOk K mg p13 := ⟨_, fd13, He.glo_ok X G (c.fact 13 (f := .glo "law") rfl), F13, b13⟩
  have hF : ∀ d ∈ tab, DefOk K mg d := fun d hd => by
    simp only [tab, List.mem_cons, List.not_mem_nil, or_false] at hd
    rcases hd with rfl | rfl | rfl | rfl | rfl | rfl | rfl | rfl | rfl | rfl | rfl | rfl | rfl | rfl
    · exact o0
    · exact o1
    · exact o2
    · exact o3
    · exact o4
    · exact o5
    · exact o6
    · exact o7
    · exact o8
    · exact o9
    · exact o10
    · exact o11
    · exact o12
    · exact o13
  have hbl : ∀ x ∈ bl, mg x = none := fun x hx => by
    simp only [bl, List.mem_cons, List.not_mem_nil, or_false] at hx
    rcases hx with rfl | rfl | rfl | rfl | rfl
    · exact He.free_ok X G (c.fact 14 (f := .free "len") rfl)
    · exact He.free_ok X G (c.fact 15 (f := .free "range") rfl)
    · exact He.free_ok X G (c.fact 16 (f := .free "set") rfl)
    · exact He.free_ok X G (c.fact 17 (f := .free "sorted") rfl)
    · exact He.free_ok X G (c.fact 18 (f := .free "tuple") rfl)
  have hcs : ∀ p ∈ cs, ConOk ⟨K, w⟩ mg p := fun p hp => by
    simp only [cs, List.mem_cons, List.not_mem_nil, or_false] at hp
    rcases hp with rfl
    · obtain ⟨t, e⟩ := He.str_ok X G (c.fact 19 (f := .str "SIGNS" ⟨#[48, 49, 50, 51, 52, 53, 54, 55, 56, 57, 64, 97, 98, 99, 100, 101, 102, 103, 104, 105, 106, 107, 108, 109, 110, 111, 112, 113, 114, 115, 116, 117, 118, 119, 120, 121, 122]⟩) rfl)
      exact ⟨_, .str ⟨#[48, 49, 50, 51, 52, 53, 54, 55, 56, 57, 64, 97, 98, 99, 100, 101, 102, 103, 104, 105, 106, 107, 108, 109, 110, 111, 112, 113, 114, 115, 116, 117, 118, 119, 120, 121, 122]⟩, e, ⟨t, rfl⟩, fun _ _ => .str [48, 49, 50, 51, 52, 53, 54, 55, 56, 57, 64, 97, 98, 99, 100, 101, 102, 103, 104, 105, 106, 107, 108, 109, 110, 111, 112, 113, 114, 115, 116, 117, 118, 119, 120, 121, 122]⟩
  have e := hfa.symm.trans (He.glo_ok X G (c.fact 13 (f := .glo "law") rfl))
  cases e
  have b := FunD.bindsA (ps := ["_law_script"]) F13 fun _ _ _ _ _ _ us hl => match us, hl with | [_], _ => rfl
  exact ⟨fd13, fun s v => b s [v] rfl, fun base _ _ => all_ok chk hF hcs hbl 10 13 p13 _ fd13 rfl F13⟩
end Pg
end Mp
section
open PySem PySem.W PySem.Calls PyProof.Rows
/-- the law, from what is said of data alone -/
theorem Mp.Pg.holds (pure : ∀ ns : List Int, ns.length ≤ 63 → ∃ outs, Mp.mcall 100000000 (Mp.tabOf Mp.Pg.tab) 10 13 [.lst false (ns.map Mp.D.int)] = some (.bl true, outs)) : PySem.Challenge.rw_splitmoot_k03_whole_masks_covered.Holds := by
  w_on; o_law
  refine HandSHeadRun.head_any (r := OpenLaw.row PySem.Challenge.rw_splitmoot_k03_whole_masks_covered) (q := view (OpenLaw.row PySem.Challenge.rw_splitmoot_k03_whole_masks_covered).prog [16]) (H := Hd.hk) (ob := Hd.ob) (M := Hd.M) (loose := Hd.names) (d := HandSHeadRun.topDef (OpenLaw.row PySem.Challenge.rw_splitmoot_k03_whole_masks_covered).prog 16) (kwd := []) Hd.ob_eq
    (by kernel_rfl) (fun s => by kernel_rfl) Hd.run (by kernel_rfl) (by kernel_rfl) (by kernel_rfl) (by rfl) (by first | assumption | decide +kernel) (by decide +kernel) ⟨rfl, rfl, rfl, rfl, rfl, by decide +kernel⟩ ?hw ?hc
  case hw => w_witness2
  case hc =>
    refine L2.walk_ofE (l := PySem.Challenge.rw_splitmoot_k03_whole_masks_covered) (n := 63) (k := 10) (x := "_law_script") (CX := L2.CX0) rfl (by decide) (by kernel_rfl) ⟨rfl, by decide, by decide⟩ ?F (fun _ _ _ _ z => z)
    intro w mg fa h Y G hmg0
    obtain ⟨K, KX, c⟩ := Y
    have hmg : mg ("law" : PySem.Str) = some (.ref fa) := by
      have e : (HandSHeadRun.topDef (OpenLaw.row PySem.Challenge.rw_splitmoot_k03_whole_masks_covered).prog 16).name = ("law" : PySem.Str) := by kernel_rfl
      rw [← e]
      exact hmg0
    obtain ⟨fd, hb, hF⟩ := Mp.Pg.facts (P := (PySem.Challenge.rw_splitmoot_k03_whole_masks_covered).prog) (w := w) KX G hmg c
    exact ⟨K, fd, Mp.spOf ⟨K, w⟩ (Mp.mcall 100000000 (Mp.tabOf Mp.Pg.tab) 10) 13, KX, hb, fun H a ns hl _ hS => (pure ns hl).elim fun outs ev => Mp.law_sp ev hS fun _ => rfl, hF⟩
end
/-! Evaluation, step by step. -/
namespace Mp
open PySem
section
variable {call : CallF} {B : Nat} {pins : List Nat} {a : MS} {r : MSs} {e e1 : Env} {d : D}
theorem seq_nx (h : mex call B pins a e = .ok .nx e1) : mexs call B pins (.cons a r) e = mexs call B pins r e1 := by rw [mexs, h, bind_ok]
theorem seq_ret (h : mex call B pins a e = .ok (.ret d) e1) : mexs call B pins (.cons a r) e = .ok (.ret d) e1 := by rw [mexs, h, bind_ok]
theorem seq_nil : mexs call B pins .nil e = .ok .nx e := rfl
theorem ife_t {c : ME} {x y : MSs} (h : truthR (mev call c e) = .ok true e1) : mex call B pins (.ife c x y) e = mexs call B pins x e1 := by rw [mex, h, bind_ok]
theorem ife_f {c : ME} {x y : MSs} (h : truthR (mev call c e) = .ok false e1) : mex call B pins (.ife c x y) e = mexs call B pins y e1 := by rw [mex, h, bind_ok]
theorem run_ret {T : List MD} {n f : Nat} {m : MD} {args outs : List D} (ht : T[f]? = some m) (hl : args.length = m.np) (h : mexs (mcall B T n) B m.pins m.body (args ++ List.replicate (m.n - m.np) .hole) = .ok (.ret d) e) (ho : outsOf m e = outs) : mcall B T (n + 1) f args = some (d, outs) := by
  subst ho
  rw [mcall, ht]
  show mrun _ _ _ _ = _
  unfold mrun
  rw [show (args.length == m.np) = true by simpa using hl]
  simp only [h]
end
def isInt : D → Bool
  | .int _ => true
  | _ => false
section
variable {i j : Int} {x y : List Nat} {p q : Bool}
theorem v_addI : opV .add [.int i, .int j] = some (.int (i + j)) := rfl
theorem v_subI : opV .sub [.int i, .int j] = some (.int (i - j)) := rfl
theorem v_addS (h : x.length + y.length ≤ bigLine) : opV .add [.str x, .str y] = some (.str (x ++ y)) := by show (if x.length + y.length ≤ bigLine then some (D.str (x ++ y)) else none) = _; rw [if_pos h]
theorem v_mulI (h : mulOk i j = true) : opV .mul [.int i, .int j] = some (.int (i * j)) := by show (if mulOk i j = true then some (D.int (i * j)) else none) = _; rw [if_pos h]
theorem v_divI (h : 0 < j) (h2 : j < 2 ^ 60) : opV .fdiv [.int i, .int j] = some (.int (i / j)) := by show (if (decide (0 < j) && decide (j < 2 ^ 60)) = true then some (D.int (i / j)) else none) = _; rw [if_pos (by simp only [h, h2, decide_true, Bool.and_self])]
theorem v_modI (h : 0 < j) : opV .md [.int i, .int j] = some (.int (i % j)) := by show (if 0 < j then some (D.int (i % j)) else none) = _; rw [if_pos h]
theorem v_powI (h : 0 ≤ j) (h2 : j ≤ 1000000) (h3 : i.natAbs < 2 ^ 64) : opV .pow [.int i, .int j] = some (.int (i ^ j.toNat)) := by show (if (decide (0 ≤ j) && decide (j ≤ 1000000) && decide (i.natAbs < 2 ^ 64)) = true then some (D.int (i ^ j.toNat)) else none) = _; rw [if_pos (by simp only [h, h2, h3, decide_true, Bool.and_self])]
theorem v_ltI : opV .lt [.int i, .int j] = some (.bl (decide (i < j))) := rfl
theorem v_leI : opV .le [.int i, .int j] = some (.bl (decide (i ≤ j))) := rfl
theorem v_gtI : opV .gt [.int i, .int j] = some (.bl (decide (j < i))) := rfl
theorem v_geI : opV .ge [.int i, .int j] = some (.bl (decide (j ≤ i))) := rfl
theorem v_eqI : opV .eq [.int i, .int j] = some (.bl (decide (i = j))) := rfl
theorem v_neI : opV .ne [.int i, .int j] = some (.bl (!decide (i = j))) := rfl
theorem v_eqS : opV .eq [.str x, .str y] = some (.bl (decide (x = y))) := rfl
theorem v_neS : opV .ne [.str x, .str y] = some (.bl (!decide (x = y))) := rfl
theorem v_eqB : opV .eq [.bl p, .bl q] = some (.bl (decide (p = q))) := rfl
theorem v_neB : opV .ne [.bl p, .bl q] = some (.bl (!decide (p = q))) := rfl
theorem v_lenS (h : x.length ≤ bigLine) : opV .len [.str x] = some (.int x.length) := by show (if x.length ≤ bigLine then some (D.int x.length) else none) = _; rw [if_pos h]
theorem v_lenL {o : Bool} {xs : List D} : opV .len [.lst o xs] = some (.int xs.length) := rfl
theorem v_lenT {xs : List D} : opV .len [.tup xs] = some (.int xs.length) := rfl
theorem v_revS (h : x.length ≤ bigLine) : opV .rev [.str x] = some (.str x.reverse) := by show (if x.length ≤ bigLine then some (D.str x.reverse) else none) = _; rw [if_pos h]
theorem v_ixL {o : Bool} {xs : List D} {d : D} (h : atL xs i = some d) (c : clean d = true) : opV .ix [.lst o xs, .int i] = some d := by
  show ((atL xs i).bind fun d => if clean d = true then some d else none) = _
  rw [h]; show (if clean d = true then some d else none) = _; rw [if_pos c]
theorem v_ixS {c : Nat} (hl : x.length ≤ bigLine) (h : atL x i = some c) : opV .ix [.str x, .int i] = some (.str [c]) := by
  show (if x.length ≤ bigLine then (atL x i).map fun c => D.str [c] else none) = _
  rw [if_pos hl, h]; rfl
theorem cut_hi {α : Type} (xs : List α) (k : Nat) : cut xs none (some (k : Int)) = xs.take k := by
  unfold cut cutP
  rw [HT.sIx_none, HT.sIx_nat, List.drop_zero, Nat.sub_zero]
  by_cases h : k ≤ xs.length
  · rw [Nat.min_eq_left h]
  · rw [Nat.min_eq_right (by omega), List.take_length, List.take_of_length_le (by omega)]
theorem cut_lo {α : Type} (xs : List α) (k : Nat) : cut xs (some (k : Int)) none = xs.drop k := by
  unfold cut cutP
  rw [HT.sIx_none, HT.sIx_nat]
  by_cases h : k ≤ xs.length
  · rw [Nat.min_eq_left h, List.take_of_length_le (by rw [List.length_drop]; omega)]
  · rw [Nat.min_eq_right (by omega), List.drop_length, List.drop_of_length_le (by omega)]; simp
theorem v_slHS {k : Nat} (h : x.length ≤ bigLine) : opV (.sl false true) [.str x, .int (k : Int)] = some (.str (x.take k)) := by
  show (if x.length ≤ bigLine then some (D.str (cut x none (some (k : Int)))) else none) = _
  rw [if_pos h, cut_hi]
theorem v_slLS {k : Nat} (h : x.length ≤ bigLine) : opV (.sl true false) [.str x, .int (k : Int)] = some (.str (x.drop k)) := by
  show (if x.length ≤ bigLine then some (D.str (cut x (some (k : Int)) none)) else none) = _
  rw [if_pos h, cut_lo]
theorem v_slHL {o : Bool} {xs : List D} {k : Nat} (h : cleans xs = true) : opV (.sl false true) [.lst o xs, .int (k : Int)] = some (.lst true (xs.take k)) := by
  show (if cleans xs = true then some (D.lst true (cut xs none (some (k : Int)))) else none) = _
  rw [if_pos h, cut_hi]
theorem atL_nat {α : Type} {xs : List α} {n : Nat} {d : α} (h : xs[n]? = some d) : atL xs (n : Int) = some d := by
  have hl : n < xs.length := (List.getElem?_eq_some_iff.mp h).1
  unfold atL L2.atI L2.ixN
  rw [if_pos (by omega), if_pos (by omega)]
  simpa using h
theorem atL_int {α : Type} {xs : List α} {d : α} (h0 : 0 ≤ i) (h : xs[i.toNat]? = some d) : atL xs i = some d := by
  have := atL_nat h
  rw [Int.toNat_of_nonneg h0] at this
  exact this
end
theorem g0 (a0 : D) (e : Env) : get (a0 :: e) 0 = a0 := rfl
theorem st0 {α : Type} (a0 x : α) (e : List α) : (a0 :: e).set 0 x = x :: e := rfl
theorem g1 (a0 a1 : D) (e : Env) : get (a0 :: a1 :: e) 1 = a1 := rfl
theorem st1 {α : Type} (a0 a1 x : α) (e : List α) : (a0 :: a1 :: e).set 1 x = a0 :: x :: e := rfl
theorem g2 (a0 a1 a2 : D) (e : Env) : get (a0 :: a1 :: a2 :: e) 2 = a2 := rfl
theorem st2 {α : Type} (a0 a1 a2 x : α) (e : List α) : (a0 :: a1 :: a2 :: e).set 2 x = a0 :: a1 :: x :: e := rfl
theorem g3 (a0 a1 a2 a3 : D) (e : Env) : get (a0 :: a1 :: a2 :: a3 :: e) 3 = a3 := rfl
theorem st3 {α : Type} (a0 a1 a2 a3 x : α) (e : List α) : (a0 :: a1 :: a2 :: a3 :: e).set 3 x = a0 :: a1 :: a2 :: x :: e := rfl
theorem g4 (a0 a1 a2 a3 a4 : D) (e : Env) : get (a0 :: a1 :: a2 :: a3 :: a4 :: e) 4 = a4 := rfl
theorem st4 {α : Type} (a0 a1 a2 a3 a4 x : α) (e : List α) : (a0 :: a1 :: a2 :: a3 :: a4 :: e).set 4 x = a0 :: a1 :: a2 :: a3 :: x :: e := rfl
theorem g5 (a0 a1 a2 a3 a4 a5 : D) (e : Env) : get (a0 :: a1 :: a2 :: a3 :: a4 :: a5 :: e) 5 = a5 := rfl
theorem st5 {α : Type} (a0 a1 a2 a3 a4 a5 x : α) (e : List α) : (a0 :: a1 :: a2 :: a3 :: a4 :: a5 :: e).set 5 x = a0 :: a1 :: a2 :: a3 :: a4 :: x :: e := rfl
theorem g6 (a0 a1 a2 a3 a4 a5 a6 : D) (e : Env) : get (a0 :: a1 :: a2 :: a3 :: a4 :: a5 :: a6 :: e) 6 = a6 := rfl
theorem st6 {α : Type} (a0 a1 a2 a3 a4 a5 a6 x : α) (e : List α) : (a0 :: a1 :: a2 :: a3 :: a4 :: a5 :: a6 :: e).set 6 x = a0 :: a1 :: a2 :: a3 :: a4 :: a5 :: x :: e := rfl
theorem g7 (a0 a1 a2 a3 a4 a5 a6 a7 : D) (e : Env) : get (a0 :: a1 :: a2 :: a3 :: a4 :: a5 :: a6 :: a7 :: e) 7 = a7 := rfl
theorem st7 {α : Type} (a0 a1 a2 a3 a4 a5 a6 a7 x : α) (e : List α) : (a0 :: a1 :: a2 :: a3 :: a4 :: a5 :: a6 :: a7 :: e).set 7 x = a0 :: a1 :: a2 :: a3 :: a4 :: a5 :: a6 :: x :: e := rfl
theorem g8 (a0 a1 a2 a3 a4 a5 a6 a7 a8 : D) (e : Env) : get (a0 :: a1 :: a2 :: a3 :: a4 :: a5 :: a6 :: a7 :: a8 :: e) 8 = a8 := rfl
theorem st8 {α : Type} (a0 a1 a2 a3 a4 a5 a6 a7 a8 x : α) (e : List α) : (a0 :: a1 :: a2 :: a3 :: a4 :: a5 :: a6 :: a7 :: a8 :: e).set 8 x = a0 :: a1 :: a2 :: a3 :: a4 :: a5 :: a6 :: a7 :: x :: e := rfl
theorem g9 (a0 a1 a2 a3 a4 a5 a6 a7 a8 a9 : D) (e : Env) : get (a0 :: a1 :: a2 :: a3 :: a4 :: a5 :: a6 :: a7 :: a8 :: a9 :: e) 9 = a9 := rfl
theorem st9 {α : Type} (a0 a1 a2 a3 a4 a5 a6 a7 a8 a9 x : α) (e : List α) : (a0 :: a1 :: a2 :: a3 :: a4 :: a5 :: a6 :: a7 :: a8 :: a9 :: e).set 9 x = a0 :: a1 :: a2 :: a3 :: a4 :: a5 :: a6 :: a7 :: a8 :: x :: e := rfl
theorem g10 (a0 a1 a2 a3 a4 a5 a6 a7 a8 a9 a10 : D) (e : Env) : get (a0 :: a1 :: a2 :: a3 :: a4 :: a5 :: a6 :: a7 :: a8 :: a9 :: a10 :: e) 10 = a10 := rfl
theorem st10 {α : Type} (a0 a1 a2 a3 a4 a5 a6 a7 a8 a9 a10 x : α) (e : List α) : (a0 :: a1 :: a2 :: a3 :: a4 :: a5 :: a6 :: a7 :: a8 :: a9 :: a10 :: e).set 10 x = a0 :: a1 :: a2 :: a3 :: a4 :: a5 :: a6 :: a7 :: a8 :: a9 :: x :: e := rfl
theorem g11 (a0 a1 a2 a3 a4 a5 a6 a7 a8 a9 a10 a11 : D) (e : Env) : get (a0 :: a1 :: a2 :: a3 :: a4 :: a5 :: a6 :: a7 :: a8 :: a9 :: a10 :: a11 :: e) 11 = a11 := rfl
theorem st11 {α : Type} (a0 a1 a2 a3 a4 a5 a6 a7 a8 a9 a10 a11 x : α) (e : List α) : (a0 :: a1 :: a2 :: a3 :: a4 :: a5 :: a6 :: a7 :: a8 :: a9 :: a10 :: a11 :: e).set 11 x = a0 :: a1 :: a2 :: a3 :: a4 :: a5 :: a6 :: a7 :: a8 :: a9 :: a10 :: x :: e := rfl
theorem g12 (a0 a1 a2 a3 a4 a5 a6 a7 a8 a9 a10 a11 a12 : D) (e : Env) : get (a0 :: a1 :: a2 :: a3 :: a4 :: a5 :: a6 :: a7 :: a8 :: a9 :: a10 :: a11 :: a12 :: e) 12 = a12 := rfl
theorem st12 {α : Type} (a0 a1 a2 a3 a4 a5 a6 a7 a8 a9 a10 a11 a12 x : α) (e : List α) : (a0 :: a1 :: a2 :: a3 :: a4 :: a5 :: a6 :: a7 :: a8 :: a9 :: a10 :: a11 :: a12 :: e).set 12 x = a0 :: a1 :: a2 :: a3 :: a4 :: a5 :: a6 :: a7 :: a8 :: a9 :: a10 :: a11 :: x :: e := rfl
theorem g13 (a0 a1 a2 a3 a4 a5 a6 a7 a8 a9 a10 a11 a12 a13 : D) (e : Env) : get (a0 :: a1 :: a2 :: a3 :: a4 :: a5 :: a6 :: a7 :: a8 :: a9 :: a10 :: a11 :: a12 :: a13 :: e) 13 = a13 := rfl
theorem st13 {α : Type} (a0 a1 a2 a3 a4 a5 a6 a7 a8 a9 a10 a11 a12 a13 x : α) (e : List α) : (a0 :: a1 :: a2 :: a3 :: a4 :: a5 :: a6 :: a7 :: a8 :: a9 :: a10 :: a11 :: a12 :: a13 :: e).set 13 x = a0 :: a1 :: a2 :: a3 :: a4 :: a5 :: a6 :: a7 :: a8 :: a9 :: a10 :: a11 :: a12 :: x :: e := rfl
end Mp
set_option maxHeartbeats 0
namespace Mp
namespace Pg
open PySem
abbrev T : List MD := tabOf tab
theorem ix0 (a : D) (xs : List D) : atL (a :: xs) 0 = some a := atL_nat (n := 0) rfl
theorem ix1 (a b : D) (xs : List D) : atL (a :: b :: xs) 1 = some b := atL_nat (n := 1) rfl
theorem ix2 (a b c : D) (xs : List D) : atL (a :: b :: c :: xs) 2 = some c := atL_nat (n := 2) rfl
abbrev Dk (a b c : Int) : D := .lst true [.int a, .int b, .int c]
theorem dk0 {a b c : Int} : opV .ix [Dk a b c, .int 0] = some (.int a) := v_ixL (ix0 _ _) rfl
theorem dk1 {a b c : Int} : opV .ix [Dk a b c, .int 1] = some (.int b) := v_ixL (ix1 _ _ _) rfl
theorem dk2 {a b c : Int} : opV .ix [Dk a b c, .int 2] = some (.int c) := v_ixL (ix2 _ _ _ _) rfl
theorem set0 {a b c : Int} {d : D} : setSem (Dk a b c) (.int 0) d = some (.lst true [d, .int b, .int c]) := rfl
theorem set2 {a b c : Int} {d : D} : setSem (Dk a b c) (.int 2) d = some (.lst true [.int a, .int b, d]) := rfl
theorem pick_big {call : CallF} {a b c many : Int} (ha : 1 < a) (h1 : 0 < many) (h2 : many < 2 ^ 60) :
    mexs call 100000000 [0] b5_4 [Dk a b c, .int many, .hole, .hole] = .ok (.ret (.int (a % many))) [Dk (a / many) b c, .int many, .hole, .hole] := by
  unfold b5_4 s5_3 b5_0 s5_0 s5_1 s5_2
  refine seq_ret ?_
  have hc : decide (1 < a) = true := decide_eq_true ha
  rw [ife_t (e1 := [Dk a b c, .int many, .hole, .hole]) (by simp only [mex, mev, mevs, mit, bind_ok, of_some, fix, isHole, truthR, truth, clean, cleans, whole, wholes, frz, frzs, lend, back, store, augSem, isOwn, reduceIte, Bool.false_eq_true, Bool.and_true, Bool.true_and, Bool.and_self, Bool.and_false, Bool.false_and, decide_true, decide_false, List.contains_nil, List.elem_nil, Option.map_some, Bool.not_true, Bool.not_false, g0, g1, g2, g3, g4, g5, g6, g7, g8, g9, g10, g11, g12, g13, st0, st1, st2, st3, st4, st5, st6, st7, st8, st9, st10, st11, st12, st13, v_addI, v_subI, v_ltI, v_leI, v_gtI, v_geI, v_eqI, v_neI, v_eqS, v_neS, v_eqB, v_neB, v_lenL, v_lenT, dk0, hc])]
  rw [seq_nx (e1 := [Dk a b c, .int many, .hole, .int (a % many)]) (by simp only [mex, mev, mevs, mit, bind_ok, of_some, fix, isHole, truthR, truth, clean, cleans, whole, wholes, frz, frzs, lend, back, store, augSem, isOwn, reduceIte, Bool.false_eq_true, Bool.and_true, Bool.true_and, Bool.and_self, Bool.and_false, Bool.false_and, decide_true, decide_false, List.contains_nil, List.elem_nil, Option.map_some, Bool.not_true, Bool.not_false, g0, g1, g2, g3, g4, g5, g6, g7, g8, g9, g10, g11, g12, g13, st0, st1, st2, st3, st4, st5, st6, st7, st8, st9, st10, st11, st12, st13, v_addI, v_subI, v_ltI, v_leI, v_gtI, v_geI, v_eqI, v_neI, v_eqS, v_neS, v_eqB, v_neB, v_lenL, v_lenT, dk0, v_modI h1]; rfl)]
  rw [seq_nx (e1 := [Dk (a / many) b c, .int many, .hole, .int (a % many)]) (by simp only [mex, mev, mevs, mit, bind_ok, of_some, fix, isHole, truthR, truth, clean, cleans, whole, wholes, frz, frzs, lend, back, store, augSem, isOwn, reduceIte, Bool.false_eq_true, Bool.and_true, Bool.true_and, Bool.and_self, Bool.and_false, Bool.false_and, decide_true, decide_false, List.contains_nil, List.elem_nil, Option.map_some, Bool.not_true, Bool.not_false, g0, g1, g2, g3, g4, g5, g6, g7, g8, g9, g10, g11, g12, g13, st0, st1, st2, st3, st4, st5, st6, st7, st8, st9, st10, st11, st12, st13, v_addI, v_subI, v_ltI, v_leI, v_gtI, v_geI, v_eqI, v_neI, v_eqS, v_neS, v_eqB, v_neB, v_lenL, v_lenT, dk0, v_divI h1 h2, set0])]
  exact seq_ret (by simp only [mex, mev, mevs, mit, bind_ok, of_some, fix, isHole, truthR, truth, clean, cleans, whole, wholes, frz, frzs, lend, back, store, augSem, isOwn, reduceIte, Bool.false_eq_true, Bool.and_true, Bool.true_and, Bool.and_self, Bool.and_false, Bool.false_and, decide_true, decide_false, List.contains_nil, List.elem_nil, Option.map_some, Bool.not_true, Bool.not_false, g0, g1, g2, g3, g4, g5, g6, g7, g8, g9, g10, g11, g12, g13, st0, st1, st2, st3, st4, st5, st6, st7, st8, st9, st10, st11, st12, st13, v_addI, v_subI, v_ltI, v_leI, v_gtI, v_geI, v_eqI, v_neI, v_eqS, v_neS, v_eqB, v_neB, v_lenL, v_lenT])
theorem nab {x : Int} (h0 : 0 ≤ x) (h : x < 18446744073709551616) : x.natAbs < 2 ^ 64 := by omega
theorem pick_small {call : CallF} {a b c many : Int} (ha : ¬ 1 < a) (h1 : 0 < many) (h2 : many ≤ 1000000) (hb0 : 0 ≤ b) (hb : b < 2147483648) (hc0 : 0 ≤ c) (hc : c < 1048576) :
    ∃ r x y, 0 ≤ r ∧ r < many ∧ mexs call 100000000 [0] b5_4 [Dk a b c, .int many, .hole, .hole] = .ok (.ret (.int r)) [Dk a b (c + 1), .int many, x, y] := by
  have e1 : 0 ≤ b + 15485867 * (c + 1) ∧ b + 15485867 * (c + 1) < 18446744073709551616 := ⟨by omega, by omega⟩
  generalize hx : (b + 15485867 * (c + 1)) ^ 5 % 2147483647 = x
  have e2 : 0 ≤ x ∧ x < 2147483647 := by rw [← hx]; exact ⟨Int.emod_nonneg _ (by decide), Int.emod_lt_of_pos _ (by decide)⟩
  generalize hy : (x + 7919 * (c + 1)) ^ 3 % 2147483629 / 32 = y
  refine ⟨y % many, .int x, .int y, Int.emod_nonneg _ (by omega), Int.emod_lt_of_pos _ h1, ?_⟩
  unfold b5_4 s5_3 b5_1 s5_4 s5_5 s5_6 s5_8 b5_3 s5_9
  have hd : decide (1 < a) = false := decide_eq_false ha
  have m1 : mulOk 15485867 (c + 1) = true := by
    unfold mulOk
    simp only [Bool.or_eq_true, Bool.and_eq_true, decide_eq_true_eq]
    omega
  have m2 : mulOk 7919 (c + 1) = true := by
    unfold mulOk
    simp only [Bool.or_eq_true, Bool.and_eq_true, decide_eq_true_eq]
    omega
  rw [seq_nx (e1 := [Dk a b c, .int many, .hole, .hole]) ((ife_f (by simp only [mex, mev, mevs, mit, bind_ok, of_some, fix, isHole, truthR, truth, clean, cleans, whole, wholes, frz, frzs, lend, back, store, augSem, isOwn, reduceIte, Bool.false_eq_true, Bool.and_true, Bool.true_and, Bool.and_self, Bool.and_false, Bool.false_and, decide_true, decide_false, List.contains_nil, List.elem_nil, Option.map_some, Bool.not_true, Bool.not_false, g0, g1, g2, g3, g4, g5, g6, g7, g8, g9, g10, g11, g12, g13, st0, st1, st2, st3, st4, st5, st6, st7, st8, st9, st10, st11, st12, st13, v_addI, v_subI, v_ltI, v_leI, v_gtI, v_geI, v_eqI, v_neI, v_eqS, v_neS, v_eqB, v_neB, v_lenL, v_lenT, dk0, hd])).trans seq_nil)]
  rw [seq_nx (e1 := [Dk a b (c + 1), .int many, .hole, .hole]) (by simp only [mex, mev, mevs, mit, bind_ok, of_some, fix, isHole, truthR, truth, clean, cleans, whole, wholes, frz, frzs, lend, back, store, augSem, isOwn, reduceIte, Bool.false_eq_true, Bool.and_true, Bool.true_and, Bool.and_self, Bool.and_false, Bool.false_and, decide_true, decide_false, List.contains_nil, List.elem_nil, Option.map_some, Bool.not_true, Bool.not_false, g0, g1, g2, g3, g4, g5, g6, g7, g8, g9, g10, g11, g12, g13, st0, st1, st2, st3, st4, st5, st6, st7, st8, st9, st10, st11, st12, st13, v_addI, v_subI, v_ltI, v_leI, v_gtI, v_geI, v_eqI, v_neI, v_eqS, v_neS, v_eqB, v_neB, v_lenL, v_lenT, dk2, set2])]
  rw [seq_nx (e1 := [Dk a b (c + 1), .int many, .int x, .hole]) (by
    simp only [mex, mev, mevs, mit, bind_ok, of_some, fix, isHole, truthR, truth, clean, cleans, whole, wholes, frz, frzs, lend, back, store, augSem, isOwn, reduceIte, Bool.false_eq_true, Bool.and_true, Bool.true_and, Bool.and_self, Bool.and_false, Bool.false_and, decide_true, decide_false, List.contains_nil, List.elem_nil, Option.map_some, Bool.not_true, Bool.not_false, g0, g1, g2, g3, g4, g5, g6, g7, g8, g9, g10, g11, g12, g13, st0, st1, st2, st3, st4, st5, st6, st7, st8, st9, st10, st11, st12, st13, v_addI, v_subI, v_ltI, v_leI, v_gtI, v_geI, v_eqI, v_neI, v_eqS, v_neS, v_eqB, v_neB, v_lenL, v_lenT, dk1, dk2, v_mulI m1, v_powI (i := b + 15485867 * (c + 1)) (j := 5) (by decide) (by decide) (nab e1.1 e1.2), v_modI (j := 2147483647) (by decide)]
    rw [← hx]; rfl)]
  rw [seq_nx (e1 := [Dk a b (c + 1), .int many, .int x, .int y]) (by
    simp only [mex, mev, mevs, mit, bind_ok, of_some, fix, isHole, truthR, truth, clean, cleans, whole, wholes, frz, frzs, lend, back, store, augSem, isOwn, reduceIte, Bool.false_eq_true, Bool.and_true, Bool.true_and, Bool.and_self, Bool.and_false, Bool.false_and, decide_true, decide_false, List.contains_nil, List.elem_nil, Option.map_some, Bool.not_true, Bool.not_false, g0, g1, g2, g3, g4, g5, g6, g7, g8, g9, g10, g11, g12, g13, st0, st1, st2, st3, st4, st5, st6, st7, st8, st9, st10, st11, st12, st13, v_addI, v_subI, v_ltI, v_leI, v_gtI, v_geI, v_eqI, v_neI, v_eqS, v_neS, v_eqB, v_neB, v_lenL, v_lenT, dk1, dk2, v_mulI m2, v_powI (i := x + 7919 * (c + 1)) (j := 3) (by decide) (by decide) (nab (by omega) (by omega)), v_modI (j := 2147483629) (by decide), v_divI (j := 32) (by decide) (by decide)]
    rw [← hy]; rfl)]
  rw [seq_nx (e1 := [Dk a b (c + 1), .int many, .int x, .int y]) ((ife_f (by simp only [mex, mev, mevs, mit, bind_ok, of_some, fix, isHole, truthR, truth, clean, cleans, whole, wholes, frz, frzs, lend, back, store, augSem, isOwn, reduceIte, Bool.false_eq_true, Bool.and_true, Bool.true_and, Bool.and_self, Bool.and_false, Bool.false_and, decide_true, decide_false, List.contains_nil, List.elem_nil, Option.map_some, Bool.not_true, Bool.not_false, g0, g1, g2, g3, g4, g5, g6, g7, g8, g9, g10, g11, g12, g13, st0, st1, st2, st3, st4, st5, st6, st7, st8, st9, st10, st11, st12, st13, v_addI, v_subI, v_ltI, v_leI, v_gtI, v_geI, v_eqI, v_neI, v_eqS, v_neS, v_eqB, v_neB, v_lenL, v_lenT, decide_eq_false (show ¬ (1000000 : Int) < many by omega)])).trans seq_nil)]
  exact seq_ret (by simp only [mex, mev, mevs, mit, bind_ok, of_some, fix, isHole, truthR, truth, clean, cleans, whole, wholes, frz, frzs, lend, back, store, augSem, isOwn, reduceIte, Bool.false_eq_true, Bool.and_true, Bool.true_and, Bool.and_self, Bool.and_false, Bool.false_and, decide_true, decide_false, List.contains_nil, List.elem_nil, Option.map_some, Bool.not_true, Bool.not_false, g0, g1, g2, g3, g4, g5, g6, g7, g8, g9, g10, g11, g12, g13, st0, st1, st2, st3, st4, st5, st6, st7, st8, st9, st10, st11, st12, st13, v_addI, v_subI, v_ltI, v_leI, v_gtI, v_geI, v_eqI, v_neI, v_eqS, v_neS, v_eqB, v_neB, v_lenL, v_lenT, v_modI h1])
theorem pick_ok (n : Nat) {a b c many : Int} (h1 : 0 < many) (h2 : many ≤ 1000000) (hb0 : 0 ≤ b) (hb : b < 2147483648) (hc0 : 0 ≤ c) (hc : c < 1048576) :
    ∃ r a' c', 0 ≤ r ∧ r < many ∧ c ≤ c' ∧ c' ≤ c + 1 ∧ mcall 100000000 T (n + 1) 5 [Dk a b c, .int many] = some (.int r, [Dk a' b c', .hole]) := by
  by_cases ha : 1 < a
  · exact ⟨a % many, a / many, c, Int.emod_nonneg _ (by omega), Int.emod_lt_of_pos _ h1, Int.le_refl _, by omega, run_ret (m := m5) rfl rfl (pick_big ha h1 (by omega)) rfl⟩
  · obtain ⟨r, x, y, h3, h4, h5⟩ := pick_small (call := mcall 100000000 T n) ha h1 h2 hb0 hb hc0 hc
    exact ⟨r, a, c + 1, h3, h4, by omega, Int.le_refl _, run_ret (m := m5) rfl rfl h5 rfl⟩
end Pg
end Mp
set_option maxHeartbeats 0
namespace Mp
namespace Pg
open PySem
theorem nodup_le : ∀ (n : Nat) (l : List Nat), l.Nodup → (∀ x ∈ l, x < n) → l.length ≤ n
  | 0, [], _, _ => Nat.le_refl _
  | 0, x :: _, _, h => absurd (h x (List.mem_cons_self ..)) (Nat.not_lt_zero _)
  | n + 1, l, nd, h => by
    by_cases hn : n ∈ l
    · have e := List.length_erase_of_mem hn
      have := nodup_le n (l.erase n) (nd.erase n) fun x hx => by
        have h1 := h x (List.mem_of_mem_erase hx)
        have h2 : x ≠ n := fun q => by subst q; exact nd.not_mem_erase hx
        omega
      omega
    · have := nodup_le n l nd fun x hx => by
        have h1 := h x hx
        have h2 : x ≠ n := fun q => by subst q; exact hn hx
        omega
      omega
abbrev iD (ks : List Nat) : List D := ks.map fun (k : Nat) => D.int k
theorem allInt_iD : ∀ ks : List Nat, allInt (iD ks) = some (ks.map fun (k : Nat) => (k : Int))
  | [] => rfl
  | k :: r => by
    show (allInt (iD r)).map ((k : Int) :: ·) = _
    rw [allInt_iD r]; rfl
theorem mem_cast {p : Nat} {ks : List Nat} : ((p : Int) ∈ ks.map fun (k : Nat) => (k : Int)) ↔ p ∈ ks := by
  rw [List.mem_map]
  exact ⟨fun ⟨q, h, e⟩ => (show q = p by omega) ▸ h, fun h => ⟨p, h, rfl⟩⟩
theorem v_notin {p : Nat} {ks : List Nat} {vs : List D} {o : Bool} : opV .notin [.int p, .dic o (iD ks) vs] = some (.bl (!decide (p ∈ ks))) := by
  show ((allInt (iD ks)).map fun ns => ns.contains (p : Int)).map (fun r => D.bl (!r)) = _
  rw [allInt_iD]
  show some (D.bl (!((ks.map fun (k : Nat) => (k : Int)).contains (p : Int)))) = _
  rw [List.contains_eq_mem]
  simp only [mem_cast]
theorem cnt_iD : ∀ {ks : List Nat} {p : Nat}, p ∉ ks → cntI (iD ks) (p : Int) = 0
  | [], p, _ => rfl
  | k :: r, p, h => by
    rw [List.mem_cons, not_or] at h
    show (if (k : Int) = (p : Int) then 1 else 0) + cntI (iD r) (p : Int) = 0
    rw [cnt_iD h.2, if_neg (by omega)]
theorem putD_new : ∀ {ks : List Nat} {vs : List D} {p : Nat} {d : D}, p ∉ ks → vs.length = ks.length → putD (iD ks) vs (p : Int) d = (iD (ks ++ [p]), vs ++ [d])
  | [], [], p, d, _, _ => rfl
  | k :: r, v :: vs, p, d, h, hl => by
    rw [List.mem_cons, not_or] at h
    have ih := putD_new (d := d) h.2 (show vs.length = r.length by simpa using hl)
    show putD (.int k :: iD r) (v :: vs) (p : Int) d = _
    unfold putD
    rw [if_neg (by omega), ih]
    rfl
  | [], _ :: _, p, d, _, hl => by simp at hl
  | _ :: _, [], p, d, _, hl => by simp at hl
theorem set_new {ks : List Nat} {vs : List D} {p : Nat} {d : D} (h : p ∉ ks) (hl : vs.length = ks.length) (hb : ks.length < bigLine) : setSem (.dic true (iD ks) vs) (.int p) d = some (.dic true (iD (ks ++ [p])) (vs ++ [d])) := by
  show (if ((allInt (iD ks)).isSome && decide ((iD ks).length < bigLine) && decide ((iD ks).length = vs.length) && decide (cntI (iD ks) p ≤ 1)) = true then _ else none) = _
  rw [if_pos]
  · rw [putD_new h hl]
  · rw [allInt_iD, cnt_iD h, List.length_map]
    simp [hb, hl]
theorem big_of {n : Nat} (h : n ≤ 1000) : n ≤ bigLine := by unfold bigLine; omega
theorem str_at {m : List Nat} {p c : Nat} (hm : m.length ≤ 1000) (h : m[p]? = some c) : opV .ix [.str m, .int p] = some (.str [c]) := v_ixS (big_of hm) (atL_nat h)
theorem dec_lt {p n : Nat} : decide ((p : Int) < (n : Int)) = decide (p < n) := by simp
theorem star0 {call : CallF} {m : List Nat} {p : Nat} {a b : D} (hm : m.length ≤ 1000) :
    truthR (mev call (.and (.op .lt (.cons (.bw 3) (.cons (.op .len (.cons (.bw 0) .nil)) .nil))) (.op .eq (.cons (.op .ix (.cons (.bw 0) (.cons (.bw 3) .nil))) (.cons (.c (.str [42])) .nil)))) [.str m, a, b, .int p]) = .ok (decide (m[p]? = some 42)) [.str m, a, b, .int p] := by
  by_cases h : p < m.length
  · have e := List.getElem?_eq_getElem h
    simp only [mex, mev, mevs, mit, bind_ok, of_some, fix, isHole, truthR, truth, clean, cleans, whole, wholes, frz, frzs, lend, back, store, augSem, isOwn, reduceIte, Bool.false_eq_true, Bool.and_true, Bool.true_and, Bool.and_self, Bool.and_false, Bool.false_and, decide_true, decide_false, List.contains_nil, List.elem_nil, Option.map_some, Bool.not_true, Bool.not_false, g0, g1, g2, g3, g4, g5, g6, g7, g8, g9, g10, g11, g12, g13, st0, st1, st2, st3, st4, st5, st6, st7, st8, st9, st10, st11, st12, st13, v_addI, v_subI, v_ltI, v_leI, v_gtI, v_geI, v_eqI, v_neI, v_eqS, v_neS, v_eqB, v_neB, v_lenL, v_lenT, v_lenS (big_of hm), dec_lt, decide_eq_true h, str_at hm e]
    rw [e]
    simp
  · have e : m[p]? = none := List.getElem?_eq_none (by omega)
    simp only [mex, mev, mevs, mit, bind_ok, of_some, fix, isHole, truthR, truth, clean, cleans, whole, wholes, frz, frzs, lend, back, store, augSem, isOwn, reduceIte, Bool.false_eq_true, Bool.and_true, Bool.true_and, Bool.and_self, Bool.and_false, Bool.false_and, decide_true, decide_false, List.contains_nil, List.elem_nil, Option.map_some, Bool.not_true, Bool.not_false, g0, g1, g2, g3, g4, g5, g6, g7, g8, g9, g10, g11, g12, g13, st0, st1, st2, st3, st4, st5, st6, st7, st8, st9, st10, st11, st12, st13, v_addI, v_subI, v_ltI, v_leI, v_gtI, v_geI, v_eqI, v_neI, v_eqS, v_neS, v_eqB, v_neB, v_lenL, v_lenT, v_lenS (big_of hm), dec_lt, decide_eq_false h]
    rw [e]
    simp
theorem _root_.Mp.Rch.mem {m : List Nat} {S : Nat → Prop} {p x : Nat} (r : Rch m p x) (cl : Cl m S) (h : S p) : S x := by
  induction r with
  | refl p => exact h
  | step a _ ih => exact ih (cl _ h a)
theorem while_ok {call : CallF} {m : List Nat} (hm : m.length ≤ 900) (pl : D) : ∀ (n p : Nat) (ks : List Nat) (vs : List D), ks.Nodup → (∀ k ∈ ks, k ≤ m.length) → vs.length = ks.length → p ≤ m.length → (∀ x ∈ ks, Mp.St m x → x + 1 ∈ ks ∨ x + 1 = p) →
    (if p ∈ ks then 1 else m.length - p + 3) ≤ n → ∃ ks' vs' p', ks'.Nodup ∧ (∀ k ∈ ks', k ≤ m.length) ∧ vs'.length = ks'.length ∧ (∀ x, x ∈ ks' ↔ x ∈ ks ∨ Rch m p x) ∧ Cl m (· ∈ ks') ∧
      whileL (fun e => truthR (mev call (.op .notin (.cons (.bw 3) (.cons (.bw 2) .nil))) e)) (fun e => mexs call 100000000 [] b0_2 e) n [.str m, pl, .dic true (iD ks) vs, .int p] = .ok .nx [.str m, pl, .dic true (iD ks') vs', .int (p' : Nat)]
  | 0, p, ks, vs, _, _, _, _, _, hn => by split at hn <;> omega
  | n + 1, p, ks, vs, nd, hb, hl, hp, hc, hn => by
    by_cases hin : p ∈ ks
    · have cl : Cl m (· ∈ ks) := fun x hx st => (hc x hx st).elim id fun e => e ▸ hin
      refine ⟨ks, vs, p, nd, hb, hl, fun x => ⟨.inl, fun h => h.elim id fun r => r.mem cl hin⟩, cl, ?_⟩
      rw [whileL]
      simp only [mex, mev, mevs, mit, bind_ok, of_some, fix, isHole, truthR, truth, clean, cleans, whole, wholes, frz, frzs, lend, back, store, augSem, isOwn, reduceIte, Bool.false_eq_true, Bool.and_true, Bool.true_and, Bool.and_self, Bool.and_false, Bool.false_and, decide_true, decide_false, List.contains_nil, List.elem_nil, Option.map_some, Bool.not_true, Bool.not_false, g0, g1, g2, g3, g4, g5, g6, g7, g8, g9, g10, g11, g12, g13, st0, st1, st2, st3, st4, st5, st6, st7, st8, st9, st10, st11, st12, st13, v_addI, v_subI, v_ltI, v_leI, v_gtI, v_geI, v_eqI, v_neI, v_eqS, v_neS, v_eqB, v_neB, v_lenL, v_lenT, v_notin, decide_eq_true hin]
    · rw [if_neg hin] at hn
      have hlen : ks.length ≤ m.length + 1 := nodup_le _ ks nd fun x hx => by have := hb x hx; omega
      have nd1 : (ks ++ [p]).Nodup := List.nodup_append.mpr ⟨nd, by simp, fun a ha b hb' e => hin (by simp at hb'; rw [← hb', ← e]; exact ha)⟩
      have hb1 : ∀ k ∈ ks ++ [p], k ≤ m.length := fun k hk => by
        rcases List.mem_append.mp hk with h | h
        · exact hb k h
        · simp at h; omega
      have hl1 : (vs ++ [D.bl true]).length = (ks ++ [p]).length := by simp [hl]
      have m1 : p ∈ ks ++ [p] := by simp
      rw [whileL]
      have cond : truthR (mev call (.op .notin (.cons (.bw 3) (.cons (.bw 2) .nil))) [.str m, pl, .dic true (iD ks) vs, .int p]) = .ok true [.str m, pl, .dic true (iD ks) vs, .int p] := by
        simp only [mex, mev, mevs, mit, bind_ok, of_some, fix, isHole, truthR, truth, clean, cleans, whole, wholes, frz, frzs, lend, back, store, augSem, isOwn, reduceIte, Bool.false_eq_true, Bool.and_true, Bool.true_and, Bool.and_self, Bool.and_false, Bool.false_and, decide_true, decide_false, List.contains_nil, List.elem_nil, Option.map_some, Bool.not_true, Bool.not_false, g0, g1, g2, g3, g4, g5, g6, g7, g8, g9, g10, g11, g12, g13, st0, st1, st2, st3, st4, st5, st6, st7, st8, st9, st10, st11, st12, st13, v_addI, v_subI, v_ltI, v_leI, v_gtI, v_geI, v_eqI, v_neI, v_eqS, v_neS, v_eqB, v_neB, v_lenL, v_lenT, v_notin, decide_eq_false hin]
      by_cases st : m[p]? = some 42
      · have hp1 : p < m.length := (List.getElem?_eq_some_iff.mp st).1
        obtain ⟨ks', vs', p', q1, q2, q3, q4, q5, q6⟩ := while_ok (call := call) hm pl n (p + 1) (ks ++ [p]) (vs ++ [D.bl true]) nd1 hb1 hl1 hp1 (fun x hx hs => by
          rcases List.mem_append.mp hx with h | h
          · rcases hc x h hs with e | e
            · exact .inl (List.mem_append_left _ e)
            · exact .inl (by rw [e]; exact m1)
          · simp at h; exact .inr (by rw [h])) (by split <;> omega)
        refine ⟨ks', vs', p', q1, q2, q3, fun x => ?_, q5, ?_⟩
        · rw [q4, List.mem_append]
          constructor
          · rintro ((h | h) | h)
            · exact .inl h
            · simp at h; rw [h]; exact .inr (.refl p)
            · exact .inr (.step st h)
          · rintro (h | h)
            · exact .inl (.inl h)
            · cases h with
              | refl => exact .inl (.inr (by simp))
              | step _ h => exact .inr h
        · simp only [cond, bind_ok]
          have body : mexs call 100000000 [] b0_2 [.str m, pl, .dic true (iD ks) vs, .int p] = .ok .nx [.str m, pl, .dic true (iD (ks ++ [p])) (vs ++ [D.bl true]), .int ((p + 1 : Nat) : Int)] := by
            unfold b0_2 s0_1 s0_3 b0_0 s0_2
            rw [seq_nx (e1 := [.str m, pl, .dic true (iD (ks ++ [p])) (vs ++ [D.bl true]), .int p]) (by simp only [mex, mev, mevs, mit, bind_ok, of_some, fix, isHole, truthR, truth, clean, cleans, whole, wholes, frz, frzs, lend, back, store, augSem, isOwn, reduceIte, Bool.false_eq_true, Bool.and_true, Bool.true_and, Bool.and_self, Bool.and_false, Bool.false_and, decide_true, decide_false, List.contains_nil, List.elem_nil, Option.map_some, Bool.not_true, Bool.not_false, g0, g1, g2, g3, g4, g5, g6, g7, g8, g9, g10, g11, g12, g13, st0, st1, st2, st3, st4, st5, st6, st7, st8, st9, st10, st11, st12, st13, v_addI, v_subI, v_ltI, v_leI, v_gtI, v_geI, v_eqI, v_neI, v_eqS, v_neS, v_eqB, v_neB, v_lenL, v_lenT, set_new (d := .bl true) hin hl (by unfold bigLine; omega)])]
            refine (seq_nx (e1 := [.str m, pl, .dic true (iD (ks ++ [p])) (vs ++ [D.bl true]), .int ((p + 1 : Nat) : Int)]) ?_).trans seq_nil
            rw [ife_t (e1 := [.str m, pl, .dic true (iD (ks ++ [p])) (vs ++ [D.bl true]), .int p]) (by rw [star0 (by omega), decide_eq_true st])]
            refine (seq_nx ?_).trans seq_nil
            simp only [mex, mev, mevs, mit, bind_ok, of_some, fix, isHole, truthR, truth, clean, cleans, whole, wholes, frz, frzs, lend, back, store, augSem, isOwn, reduceIte, Bool.false_eq_true, Bool.and_true, Bool.true_and, Bool.and_self, Bool.and_false, Bool.false_and, decide_true, decide_false, List.contains_nil, List.elem_nil, Option.map_some, Bool.not_true, Bool.not_false, g0, g1, g2, g3, g4, g5, g6, g7, g8, g9, g10, g11, g12, g13, st0, st1, st2, st3, st4, st5, st6, st7, st8, st9, st10, st11, st12, st13, v_addI, v_subI, v_ltI, v_leI, v_gtI, v_geI, v_eqI, v_neI, v_eqS, v_neS, v_eqB, v_neB, v_lenL, v_lenT, augSem]
            rfl
          rw [body, bind_ok]
          exact q6
      · obtain ⟨ks', vs', p', q1, q2, q3, q4, q5, q6⟩ := while_ok (call := call) hm pl n p (ks ++ [p]) (vs ++ [D.bl true]) nd1 hb1 hl1 hp (fun x hx hs => by
          rcases List.mem_append.mp hx with h | h
          · rcases hc x h hs with e | e
            · exact .inl (List.mem_append_left _ e)
            · exact .inr e
          · simp at h; subst h; exact absurd hs st) (by rw [if_pos m1]; omega)
        refine ⟨ks', vs', p', q1, q2, q3, fun x => ?_, q5, ?_⟩
        · rw [q4, List.mem_append]
          constructor
          · rintro ((h | h) | h)
            · exact .inl h
            · simp at h; rw [h]; exact .inr (.refl p)
            · exact .inr h
          · rintro (h | h)
            · exact .inl (.inl h)
            · exact .inr h
        · simp only [cond, bind_ok]
          have body : mexs call 100000000 [] b0_2 [.str m, pl, .dic true (iD ks) vs, .int p] = .ok .nx [.str m, pl, .dic true (iD (ks ++ [p])) (vs ++ [D.bl true]), .int p] := by
            unfold b0_2 s0_1 s0_3 b0_1
            rw [seq_nx (e1 := [.str m, pl, .dic true (iD (ks ++ [p])) (vs ++ [D.bl true]), .int p]) (by simp only [mex, mev, mevs, mit, bind_ok, of_some, fix, isHole, truthR, truth, clean, cleans, whole, wholes, frz, frzs, lend, back, store, augSem, isOwn, reduceIte, Bool.false_eq_true, Bool.and_true, Bool.true_and, Bool.and_self, Bool.and_false, Bool.false_and, decide_true, decide_false, List.contains_nil, List.elem_nil, Option.map_some, Bool.not_true, Bool.not_false, g0, g1, g2, g3, g4, g5, g6, g7, g8, g9, g10, g11, g12, g13, st0, st1, st2, st3, st4, st5, st6, st7, st8, st9, st10, st11, st12, st13, v_addI, v_subI, v_ltI, v_leI, v_gtI, v_geI, v_eqI, v_neI, v_eqS, v_neS, v_eqB, v_neB, v_lenL, v_lenT, set_new (d := .bl true) hin hl (by unfold bigLine; omega)])]
            refine (seq_nx (e1 := [.str m, pl, .dic true (iD (ks ++ [p])) (vs ++ [D.bl true]), .int p]) ?_).trans seq_nil
            rw [ife_f (e1 := [.str m, pl, .dic true (iD (ks ++ [p])) (vs ++ [D.bl true]), .int p]) (by rw [star0 (by omega), decide_eq_false st])]
            exact seq_nil
          rw [body, bind_ok]
          exact q6
def insN (x : Nat) : List Nat → List Nat
  | [] => [x]
  | y :: ys => if x ≤ y then x :: y :: ys else y :: insN x ys
def sortN : List Nat → List Nat
  | [] => []
  | x :: xs => insN x (sortN xs)
theorem insN_mem {x z : Nat} : ∀ {ys : List Nat}, z ∈ insN x ys ↔ z = x ∨ z ∈ ys
  | [] => by simp [insN]
  | y :: ys => by
    unfold insN
    split
    · simp
    · rw [List.mem_cons, insN_mem, List.mem_cons]
      exact ⟨fun h => by rcases h with h | h | h <;> simp [h], fun h => by rcases h with h | h | h <;> simp [h]⟩
theorem sortN_mem {z : Nat} : ∀ {xs : List Nat}, z ∈ sortN xs ↔ z ∈ xs
  | [] => by simp [sortN]
  | x :: xs => by rw [sortN, insN_mem, sortN_mem, List.mem_cons]
theorem insN_len {x : Nat} : ∀ {ys : List Nat}, (insN x ys).length = ys.length + 1
  | [] => rfl
  | y :: ys => by
    unfold insN
    split
    · rfl
    · rw [List.length_cons, insN_len, List.length_cons]
theorem sortN_len : ∀ {xs : List Nat}, (sortN xs).length = xs.length
  | [] => rfl
  | x :: xs => by rw [sortN, insN_len, sortN_len, List.length_cons]
theorem insI_cast {x : Nat} : ∀ {ys : List Nat}, insI (x : Int) (ys.map fun (k : Nat) => (k : Int)) = (insN x ys).map fun (k : Nat) => (k : Int)
  | [] => rfl
  | y :: ys => by
    show (if (x : Int) ≤ (y : Int) then _ else _) = _
    unfold insN
    by_cases h : x ≤ y
    · rw [if_pos (by omega), if_pos h]; rfl
    · rw [if_neg (by omega), if_neg h, insI_cast]; rfl
theorem sortI_cast : ∀ {xs : List Nat}, sortI (xs.map fun (k : Nat) => (k : Int)) = (sortN xs).map fun (k : Nat) => (k : Int)
  | [] => rfl
  | x :: xs => by
    show insI (x : Int) (sortI (xs.map fun (k : Nat) => (k : Int))) = _
    rw [sortI_cast, insI_cast]; rfl
theorem v_sortL {o : Bool} {ps : List Nat} : opV .sorted [.lst o (iD ps)] = some (.lst true (iD (sortN ps))) := by
  show (allInt (iD ps)).map (fun ns => D.lst true ((sortI ns).map .int)) = _
  rw [allInt_iD, Option.map_some, sortI_cast, List.map_map]; rfl
theorem v_sortD {o : Bool} {ps : List Nat} {vs : List D} : opV .sorted [.dic o (iD ps) vs] = some (.lst true (iD (sortN ps))) := by
  show (allInt (iD ps)).map (fun ns => D.lst true ((sortI ns).map .int)) = _
  rw [allInt_iD, Option.map_some, sortI_cast, List.map_map]; rfl
theorem wholes_iD : ∀ ps : List Nat, wholes (iD ps) = true
  | [] => rfl
  | p :: r => by show (whole (.int p) && wholes (iD r)) = true; rw [wholes_iD r]; rfl
theorem cleans_iD : ∀ ps : List Nat, cleans (iD ps) = true
  | [] => rfl
  | p :: r => by show (clean (.int p) && cleans (iD r)) = true; rw [cleans_iD r]; rfl
theorem frzs_iD : ∀ ps : List Nat, frzs (iD ps) = iD ps
  | [] => rfl
  | p :: r => by show frz (.int p) :: frzs (iD r) = _; rw [frzs_iD r]; rfl
theorem v_tupL {o : Bool} {ps : List Nat} : opV .tuple [.lst o (iD ps)] = some (.tup (iD ps)) := by
  show (if cleans (iD ps) = true then some (D.tup (iD ps)) else none) = _
  rw [if_pos (cleans_iD ps)]
theorem for0_ok {call : CallF} {m : List Nat} (hm : m.length ≤ 900) (pl : D) : ∀ (qs ks : List Nat) (vs : List D) (pv : D), ks.Nodup → (∀ k ∈ ks, k ≤ m.length) → vs.length = ks.length → Cl m (· ∈ ks) → (∀ q ∈ qs, q ≤ m.length) →
    ∃ ks' vs' pv', ks'.Nodup ∧ (∀ k ∈ ks', k ≤ m.length) ∧ ks'.length ≤ m.length + 1 ∧ (∀ x, x ∈ ks' ↔ x ∈ ks ∨ ∃ q ∈ qs, Rch m q x) ∧
      forL (fun x e2 => (R.of (store [] (.nm 3) x e2) e2).bind fun e3 _ => mexs call 100000000 [] b0_3 e3) (iD qs) [.str m, pl, .dic true (iD ks) vs, pv] = .ok .nx [.str m, pl, .dic true (iD ks') vs', pv']
  | [], ks, vs, pv, nd, hb, hl, cl, hq => ⟨ks, vs, pv, nd, hb, nodup_le _ ks nd (fun x hx => Nat.lt_succ_of_le (hb x hx)), fun x => ⟨.inl, fun h => h.elim id fun ⟨q, h, _⟩ => nomatch h⟩, rfl⟩
  | q :: qs, ks, vs, pv, nd, hb, hl, cl, hq => by
    have hq0 := hq q (List.mem_cons_self ..)
    obtain ⟨ks1, vs1, p1, a1, a2, a3, a4, a5, a6⟩ := while_ok (call := call) hm pl 100000000 q ks vs nd hb hl hq0 (fun x hx st => .inl (cl x hx st)) (by split <;> omega)
    obtain ⟨ks2, vs2, p2, bn, b1, b0, b2, b3⟩ := for0_ok (call := call) hm pl qs ks1 vs1 (.int p1) a1 a2 a3 a5 fun q hq' => hq q (List.mem_cons_of_mem _ hq')
    refine ⟨ks2, vs2, p2, bn, b1, b0, fun x => ?_, ?_⟩
    · rw [b2, a4]
      constructor
      · rintro ((h | h) | ⟨z, hz, h⟩)
        · exact .inl h
        · exact .inr ⟨q, List.mem_cons_self .., h⟩
        · exact .inr ⟨z, List.mem_cons_of_mem _ hz, h⟩
      · rintro (h | ⟨z, hz, h⟩)
        · exact .inl (.inl h)
        · rcases List.mem_cons.mp hz with e | hz
          · exact .inl (.inr (e ▸ h))
          · exact .inr ⟨z, hz, h⟩
    · show forL _ (.int q :: iD qs) _ = _
      rw [forL]
      have one : mexs call 100000000 [] b0_3 [.str m, pl, .dic true (iD ks) vs, .int q] = .ok .nx [.str m, pl, .dic true (iD ks1) vs1, .int p1] := by
        unfold b0_3 s0_4
        refine (seq_nx ?_).trans seq_nil
        rw [mex]
        exact a6
      simp only [mex, mev, mevs, mit, bind_ok, of_some, fix, isHole, truthR, truth, clean, cleans, whole, wholes, frz, frzs, lend, back, store, augSem, isOwn, reduceIte, Bool.false_eq_true, Bool.and_true, Bool.true_and, Bool.and_self, Bool.and_false, Bool.false_and, decide_true, decide_false, List.contains_nil, List.elem_nil, Option.map_some, Bool.not_true, Bool.not_false, g0, g1, g2, g3, g4, g5, g6, g7, g8, g9, g10, g11, g12, g13, st0, st1, st2, st3, st4, st5, st6, st7, st8, st9, st10, st11, st12, st13, v_addI, v_subI, v_ltI, v_leI, v_gtI, v_geI, v_eqI, v_neI, v_eqS, v_neS, v_eqB, v_neB, v_lenL, v_lenT, one]
      exact b3
theorem insN_sorted {x : Nat} : ∀ {ys : List Nat}, ys.Pairwise (· < ·) → x ∉ ys → (insN x ys).Pairwise (· < ·)
  | [], _, _ => List.pairwise_singleton _ _
  | y :: ys, h, hx => by
    rw [List.pairwise_cons] at h
    rw [List.mem_cons, not_or] at hx
    unfold insN
    split
    · rename_i hle
      rw [List.pairwise_cons]
      refine ⟨fun z hz => ?_, by rw [List.pairwise_cons]; exact h⟩
      rcases List.mem_cons.mp hz with e | e
      · omega
      · have := h.1 z e; omega
    · rename_i hle
      rw [List.pairwise_cons]
      refine ⟨fun z hz => ?_, insN_sorted h.2 hx.2⟩
      rcases insN_mem.mp hz with e | e
      · omega
      · exact h.1 z e
theorem sortN_sorted : ∀ {xs : List Nat}, xs.Nodup → (sortN xs).Pairwise (· < ·)
  | [], _ => .nil
  | x :: xs, h => by
    rw [List.nodup_cons] at h
    rw [sortN]
    exact insN_sorted (sortN_sorted h.2) fun q => h.1 (sortN_mem.mp q)
theorem spread_ok (n : Nat) {m : List Nat} (hm : m.length ≤ 900) {o : Bool} {ps : List Nat} (hp : ∀ p ∈ ps, p ≤ m.length) :
    ∃ ks : List Nat, ks.Pairwise (· < ·) ∧ (∀ k ∈ ks, k ≤ m.length) ∧ ks.length ≤ m.length + 1 ∧ (∀ x, x ∈ ks ↔ ∃ p ∈ ps, Rch m p x) ∧ mcall 100000000 T (n + 1) 0 [.str m, .lst o (iD ps)] = some (.tup (iD ks), [.hole, .hole]) := by
  obtain ⟨ks, vs, pv, hn, h1, h0, h2, h3⟩ := for0_ok (call := mcall 100000000 T n) hm (.lst o (iD ps)) (sortN ps) [] [] .hole List.nodup_nil (by simp) rfl (fun p h => nomatch h) fun q hq => hp q (sortN_mem.mp hq)
  refine ⟨sortN ks, sortN_sorted hn, fun k hk => h1 k (sortN_mem.mp hk), by rw [sortN_len]; exact h0, fun x => ?_, ?_⟩
  · rw [sortN_mem, h2]
    constructor
    · rintro (h | ⟨q, hq, r⟩)
      · cases h
      · exact ⟨q, sortN_mem.mp hq, r⟩
    · rintro ⟨q, hq, r⟩
      exact .inr ⟨q, sortN_mem.mpr hq, r⟩
  · refine run_ret (m := m0) (e := [.str m, .lst o (iD ps), .dic true (iD ks) vs, pv]) rfl rfl ?_ rfl
    show mexs _ 100000000 [] b0_4 [.str m, .lst o (iD ps), .hole, .hole] = _
    unfold b0_4 s0_0 s0_5 s0_6
    rw [seq_nx (e1 := [.str m, .lst o (iD ps), .dic true [] [], .hole]) (by simp only [mex, mev, mevs, mit, bind_ok, of_some, fix, isHole, truthR, truth, clean, cleans, whole, wholes, frz, frzs, lend, back, store, augSem, isOwn, reduceIte, Bool.false_eq_true, Bool.and_true, Bool.true_and, Bool.and_self, Bool.and_false, Bool.false_and, decide_true, decide_false, List.contains_nil, List.elem_nil, Option.map_some, Bool.not_true, Bool.not_false, g0, g1, g2, g3, g4, g5, g6, g7, g8, g9, g10, g11, g12, g13, st0, st1, st2, st3, st4, st5, st6, st7, st8, st9, st10, st11, st12, st13, v_addI, v_subI, v_ltI, v_leI, v_gtI, v_geI, v_eqI, v_neI, v_eqS, v_neS, v_eqB, v_neB, v_lenL, v_lenT])]
    rw [seq_nx (e1 := [.str m, .lst o (iD ps), .dic true (iD ks) vs, pv]) (by
      rw [mex]
      simp only [mit, mev, mevs, bind_ok, isHole, fix, g0, g1, g2, g3, v_sortL, of_some, wholes_iD, frzs_iD, if_true, Bool.false_eq_true, if_false]
      exact h3)]
    exact seq_ret (by simp only [mex, mev, mevs, mit, bind_ok, of_some, fix, isHole, truthR, truth, clean, cleans, whole, wholes, frz, frzs, lend, back, store, augSem, isOwn, reduceIte, Bool.false_eq_true, Bool.and_true, Bool.true_and, Bool.and_self, Bool.and_false, Bool.false_and, decide_true, decide_false, List.contains_nil, List.elem_nil, Option.map_some, Bool.not_true, Bool.not_false, g0, g1, g2, g3, g4, g5, g6, g7, g8, g9, g10, g11, g12, g13, st0, st1, st2, st3, st4, st5, st6, st7, st8, st9, st10, st11, st12, st13, v_addI, v_subI, v_ltI, v_leI, v_gtI, v_geI, v_eqI, v_neI, v_eqS, v_neS, v_eqB, v_neB, v_lenL, v_lenT, v_sortD, v_tupL])
end Pg
end Mp
set_option maxHeartbeats 0
namespace Mp
namespace Pg
open PySem
theorem star1 {call : CallF} {m : List Nat} {p : Nat} {a b d : D} (hm : m.length ≤ 1000) :
    truthR (mev call (.and (.op .lt (.cons (.bw 4) (.cons (.op .len (.cons (.bw 0) .nil)) .nil))) (.op .eq (.cons (.op .ix (.cons (.bw 0) (.cons (.bw 4) .nil))) (.cons (.c (.str [42])) .nil)))) [.str m, a, b, d, .int p]) = .ok (decide (m[p]? = some 42)) [.str m, a, b, d, .int p] := by
  by_cases h : p < m.length
  · have e := List.getElem?_eq_getElem h
    simp only [mex, mev, mevs, mit, bind_ok, of_some, fix, isHole, truthR, truth, clean, cleans, whole, wholes, frz, frzs, lend, back, store, augSem, isOwn, reduceIte, Bool.false_eq_true, Bool.and_true, Bool.true_and, Bool.and_self, Bool.and_false, Bool.false_and, decide_true, decide_false, List.contains_nil, List.elem_nil, Option.map_some, Bool.not_true, Bool.not_false, g0, g1, g2, g3, g4, g5, g6, g7, g8, g9, g10, g11, g12, g13, st0, st1, st2, st3, st4, st5, st6, st7, st8, st9, st10, st11, st12, st13, v_addI, v_subI, v_ltI, v_leI, v_gtI, v_geI, v_eqI, v_neI, v_eqS, v_neS, v_eqB, v_neB, v_lenL, v_lenT, v_lenS (big_of hm), dec_lt, decide_eq_true h, str_at hm e]
    rw [e]
    simp
  · have e : m[p]? = none := List.getElem?_eq_none (by omega)
    simp only [mex, mev, mevs, mit, bind_ok, of_some, fix, isHole, truthR, truth, clean, cleans, whole, wholes, frz, frzs, lend, back, store, augSem, isOwn, reduceIte, Bool.false_eq_true, Bool.and_true, Bool.true_and, Bool.and_self, Bool.and_false, Bool.false_and, decide_true, decide_false, List.contains_nil, List.elem_nil, Option.map_some, Bool.not_true, Bool.not_false, g0, g1, g2, g3, g4, g5, g6, g7, g8, g9, g10, g11, g12, g13, st0, st1, st2, st3, st4, st5, st6, st7, st8, st9, st10, st11, st12, st13, v_addI, v_subI, v_ltI, v_leI, v_gtI, v_geI, v_eqI, v_neI, v_eqS, v_neS, v_eqB, v_neB, v_lenL, v_lenT, v_lenS (big_of hm), dec_lt, decide_eq_false h]
    rw [e]
    simp
theorem v_in2 {s x y : Nat} : opV .isin [.str [s], .tup [.str [x], .str [y]]] = some (.bl (decide (x = s ∨ y = s))) := by
  show some (D.bl (([x] == [s]) || (([y] == [s]) || false))) = _
  congr 2
  by_cases h1 : x = s <;> by_cases h2 : y = s <;> simp [h1, h2]
theorem in1 {call : CallF} {m : List Nat} {p c : Nat} {a d : D} (hm : m.length ≤ 1000) :
    truthR (mev call (.and (.op .lt (.cons (.bw 4) (.cons (.op .len (.cons (.bw 0) .nil)) .nil))) (.op .isin (.cons (.op .ix (.cons (.bw 0) (.cons (.bw 4) .nil))) (.cons (.dsp true (.cons (.c (.str [63])) (.cons (.cp 2) .nil))) .nil)))) [.str m, a, .str [c], d, .int p]) = .ok (decide (∃ s, m[p]? = some s ∧ (s = 63 ∨ s = c))) [.str m, a, .str [c], d, .int p] := by
  by_cases h : p < m.length
  · have e := List.getElem?_eq_getElem h
    have b2 : decide (([D.str [63], D.str [c]] : List D).length ≤ bigLine) = true := decide_eq_true (show 2 ≤ bigLine by unfold bigLine; omega)
    simp only [mex, mev, mevs, mit, bind_ok, of_some, fix, isHole, truthR, truth, clean, cleans, whole, wholes, frz, frzs, lend, back, store, augSem, isOwn, reduceIte, Bool.false_eq_true, Bool.and_true, Bool.true_and, Bool.and_self, Bool.and_false, Bool.false_and, decide_true, decide_false, List.contains_nil, List.elem_nil, Option.map_some, Bool.not_true, Bool.not_false, g0, g1, g2, g3, g4, g5, g6, g7, g8, g9, g10, g11, g12, g13, st0, st1, st2, st3, st4, st5, st6, st7, st8, st9, st10, st11, st12, st13, v_addI, v_subI, v_ltI, v_leI, v_gtI, v_geI, v_eqI, v_neI, v_eqS, v_neS, v_eqB, v_neB, v_lenL, v_lenT, v_lenS (big_of hm), dec_lt, decide_eq_true h, str_at hm e, b2, if_true, v_in2]
    congr 1
    rw [e]
    by_cases h1 : 63 = m[p] <;> by_cases h2 : c = m[p] <;> simp [h1, h2, eq_comm]
  · have e : m[p]? = none := List.getElem?_eq_none (by omega)
    simp only [mex, mev, mevs, mit, bind_ok, of_some, fix, isHole, truthR, truth, clean, cleans, whole, wholes, frz, frzs, lend, back, store, augSem, isOwn, reduceIte, Bool.false_eq_true, Bool.and_true, Bool.true_and, Bool.and_self, Bool.and_false, Bool.false_and, decide_true, decide_false, List.contains_nil, List.elem_nil, Option.map_some, Bool.not_true, Bool.not_false, g0, g1, g2, g3, g4, g5, g6, g7, g8, g9, g10, g11, g12, g13, st0, st1, st2, st3, st4, st5, st6, st7, st8, st9, st10, st11, st12, st13, v_addI, v_subI, v_ltI, v_leI, v_gtI, v_geI, v_eqI, v_neI, v_eqS, v_neS, v_eqB, v_neB, v_lenL, v_lenT, v_lenS (big_of hm), dec_lt, decide_eq_false h]
    rw [e]
    simp
theorem app_ok {xs : List Nat} {p : Nat} (h : xs.length < 10000) : appSem (.lst true (iD xs)) (.int p) = some (.lst true (iD (xs ++ [p]))) := by
  show (if (iD xs).length < bigLine then some (D.lst true (iD xs ++ [.int p])) else none) = _
  rw [if_pos (by rw [List.length_map]; unfold bigLine; omega)]
  show _ = some (D.lst true ((xs ++ [p]).map fun (k : Nat) => D.int k))
  rw [List.map_append]; rfl
def StepS (m : List Nat) (c : Nat) (S : Nat → Prop) : Nat → Prop := fun p => ∃ q, S q ∧ ((Mp.St m q ∧ p = q) ∨ (Mp.Ok m c q ∧ p = q + 1))
theorem for1_ok {call : CallF} {m : List Nat} (hm : m.length ≤ 900) (pl : D) (c : Nat) : ∀ (qs fs : List Nat) (pv : D), fs.length + qs.length ≤ 9000 →
    ∃ fs' pv', fs'.length ≤ fs.length + qs.length ∧ (∀ x, x ∈ fs' ↔ x ∈ fs ∨ StepS m c (· ∈ qs) x) ∧
      forL (fun x e2 => (R.of (store [] (.nm 4) x e2) e2).bind fun e3 _ => mexs call 100000000 [] b1_4 e3) (iD qs) [.str m, pl, .str [c], .lst true (iD fs), pv] = .ok .nx [.str m, pl, .str [c], .lst true (iD fs'), pv']
  | [], fs, pv, _ => ⟨fs, pv, Nat.le_refl _, fun x => ⟨.inl, fun h => h.elim id fun ⟨q, h, _⟩ => nomatch h⟩, rfl⟩
  | q :: qs, fs, pv, hl => by
    rw [List.length_cons] at hl
    have go : ∀ gs : List Nat, gs.length ≤ fs.length + 1 → (∀ x, x ∈ gs ↔ x ∈ fs ∨ ((Mp.St m q ∧ x = q) ∨ (Mp.Ok m c q ∧ x = q + 1))) → mexs call 100000000 [] b1_4 [.str m, pl, .str [c], .lst true (iD fs), .int q] = .ok .nx [.str m, pl, .str [c], .lst true (iD gs), .int q] →
        ∃ fs' pv', fs'.length ≤ fs.length + (q :: qs).length ∧ (∀ x, x ∈ fs' ↔ x ∈ fs ∨ StepS m c (· ∈ q :: qs) x) ∧
      forL (fun x e2 => (R.of (store [] (.nm 4) x e2) e2).bind fun e3 _ => mexs call 100000000 [] b1_4 e3) (iD (q :: qs)) [.str m, pl, .str [c], .lst true (iD fs), pv] = .ok .nx [.str m, pl, .str [c], .lst true (iD fs'), pv'] := fun gs g1 g2 g3 => by
      obtain ⟨fs', pv', a1, a2, a3⟩ := for1_ok (call := call) hm pl c qs gs (.int q) (by omega)
      refine ⟨fs', pv', by rw [List.length_cons]; omega, fun x => ?_, ?_⟩
      · rw [a2, g2]
        constructor
        · rintro ((h | h) | ⟨z, hz, h⟩)
          · exact .inl h
          · exact .inr ⟨q, List.mem_cons_self .., h⟩
          · exact .inr ⟨z, List.mem_cons_of_mem _ hz, h⟩
        · rintro (h | ⟨z, hz, h⟩)
          · exact .inl (.inl h)
          · rcases List.mem_cons.mp hz with e | hz
            · exact .inl (.inr (e ▸ h))
            · exact .inr ⟨z, hz, h⟩
      · show forL _ (.int q :: iD qs) _ = _
        rw [forL]
        simp only [mex, mev, mevs, mit, bind_ok, of_some, fix, isHole, truthR, truth, clean, cleans, whole, wholes, frz, frzs, lend, back, store, augSem, isOwn, reduceIte, Bool.false_eq_true, Bool.and_true, Bool.true_and, Bool.and_self, Bool.and_false, Bool.false_and, decide_true, decide_false, List.contains_nil, List.elem_nil, Option.map_some, Bool.not_true, Bool.not_false, g0, g1, g2, g3, g4, g5, g6, g7, g8, g9, g10, g11, g12, g13, st0, st1, st2, st3, st4, st5, st6, st7, st8, st9, st10, st11, st12, st13, v_addI, v_subI, v_ltI, v_leI, v_gtI, v_geI, v_eqI, v_neI, v_eqS, v_neS, v_eqB, v_neB, v_lenL, v_lenT, g3]
        exact a3
    have hf : fs.length < 10000 := by omega
    by_cases st : m[q]? = some 42
    · refine go (fs ++ [q]) (by simp) (fun x => ?_) ?_
      · rw [List.mem_append, List.mem_singleton]
        constructor
        · rintro (h | h)
          · exact .inl h
          · exact .inr (.inl ⟨st, h⟩)
        · rintro (h | ⟨_, h⟩ | ⟨⟨s, e, n, _⟩, _⟩)
          · exact .inl h
          · exact .inr h
          · rw [st] at e; cases e; exact absurd rfl n
      · unfold b1_4 s1_4 b1_0 s1_1
        refine (seq_nx ?_).trans seq_nil
        rw [ife_t (e1 := [.str m, pl, .str [c], .lst true (iD fs), .int q]) (by rw [star1 (by omega), decide_eq_true st])]
        refine (seq_nx ?_).trans seq_nil
        simp only [mex, mev, mevs, mit, bind_ok, of_some, fix, isHole, truthR, truth, clean, cleans, whole, wholes, frz, frzs, lend, back, store, augSem, isOwn, reduceIte, Bool.false_eq_true, Bool.and_true, Bool.true_and, Bool.and_self, Bool.and_false, Bool.false_and, decide_true, decide_false, List.contains_nil, List.elem_nil, Option.map_some, Bool.not_true, Bool.not_false, g0, g1, g2, g3, g4, g5, g6, g7, g8, g9, g10, g11, g12, g13, st0, st1, st2, st3, st4, st5, st6, st7, st8, st9, st10, st11, st12, st13, v_addI, v_subI, v_ltI, v_leI, v_gtI, v_geI, v_eqI, v_neI, v_eqS, v_neS, v_eqB, v_neB, v_lenL, v_lenT, app_ok hf]
    · by_cases ok : ∃ s, m[q]? = some s ∧ (s = 63 ∨ s = c)
      · refine go (fs ++ [q + 1]) (by simp) (fun x => ?_) ?_
        · rw [List.mem_append, List.mem_singleton]
          obtain ⟨s, e, d⟩ := ok
          have n : s ≠ 42 := fun z => st (by rw [e, z])
          constructor
          · rintro (h | h)
            · exact .inl h
            · exact .inr (.inr ⟨⟨s, e, n, d⟩, h⟩)
          · rintro (h | ⟨s', h⟩ | ⟨_, h⟩)
            · exact .inl h
            · exact absurd s' st
            · exact .inr h
        · unfold b1_4 s1_4 b1_3 s1_3 b1_1 s1_2
          refine (seq_nx ?_).trans seq_nil
          rw [ife_f (e1 := [.str m, pl, .str [c], .lst true (iD fs), .int q]) (by rw [star1 (by omega), decide_eq_false st])]
          refine (seq_nx ?_).trans seq_nil
          rw [ife_t (e1 := [.str m, pl, .str [c], .lst true (iD fs), .int q]) (by rw [in1 (by omega), decide_eq_true ok])]
          refine (seq_nx ?_).trans seq_nil
          have ha := app_ok (xs := fs) (p := q + 1) hf
          rw [show ((q + 1 : Nat) : Int) = (q : Int) + 1 by omega] at ha
          simp only [mex, mev, mevs, mit, bind_ok, of_some, fix, isHole, truthR, truth, clean, cleans, whole, wholes, frz, frzs, lend, back, store, augSem, isOwn, reduceIte, Bool.false_eq_true, Bool.and_true, Bool.true_and, Bool.and_self, Bool.and_false, Bool.false_and, decide_true, decide_false, List.contains_nil, List.elem_nil, Option.map_some, Bool.not_true, Bool.not_false, g0, g1, g2, g3, g4, g5, g6, g7, g8, g9, g10, g11, g12, g13, st0, st1, st2, st3, st4, st5, st6, st7, st8, st9, st10, st11, st12, st13, v_addI, v_subI, v_ltI, v_leI, v_gtI, v_geI, v_eqI, v_neI, v_eqS, v_neS, v_eqB, v_neB, v_lenL, v_lenT, ha]
      · refine go fs (by omega) (fun x => ?_) ?_
        · constructor
          · exact .inl
          · rintro (h | ⟨s', h⟩ | ⟨⟨s, e, n, d⟩, _⟩)
            · exact h
            · exact absurd s' st
            · exact absurd ⟨s, e, d⟩ ok
        · unfold b1_4 s1_4 b1_3 s1_3 b1_2
          refine (seq_nx ?_).trans seq_nil
          rw [ife_f (e1 := [.str m, pl, .str [c], .lst true (iD fs), .int q]) (by rw [star1 (by omega), decide_eq_false st])]
          refine (seq_nx ?_).trans seq_nil
          rw [ife_f (e1 := [.str m, pl, .str [c], .lst true (iD fs), .int q]) (by rw [in1 (by omega), decide_eq_false ok])]
          exact seq_nil
/-- rows of places as they come -/
structure Pl (m : List Nat) (ks : List Nat) : Prop where
  le : ∀ k ∈ ks, k ≤ m.length
  few : ks.length ≤ m.length + 1
  cl : Cl m (· ∈ ks)
theorem stepped_ok (n : Nat) {m : List Nat} (hm : m.length ≤ 900) (c : Nat) {ps : List Nat} (hp : Pl m ps) :
    ∃ ks : List Nat, ks.Pairwise (· < ·) ∧ (∀ x, x ∈ ks ↔ Cls m (StepS m c (· ∈ ps)) x) ∧ Pl m ks ∧ (∀ w, Acc m (· ∈ ks) w ↔ Acc m (· ∈ ps) (c :: w)) ∧ mcall 100000000 T (n + 2) 1 [.str m, .tup (iD ps), .str [c]] = some (.tup (iD ks), [.hole, .hole, .hole]) := by
  have few := hp.few
  obtain ⟨fs, pv, a1, a2, a3⟩ := for1_ok (call := mcall 100000000 T (n + 1)) hm (.tup (iD ps)) c ps [] .hole (by simp; omega)
  have a2 : ∀ x, x ∈ fs ↔ StepS m c (· ∈ ps) x := fun x => by rw [a2]; simp
  obtain ⟨ks, b0, b1, b2, b3, b4⟩ := spread_ok n hm (o := false) (ps := fs) fun p h => by
    obtain ⟨q, hq, ⟨s, rfl⟩ | ⟨⟨s, e, _⟩, rfl⟩⟩ := (a2 p).mp h
    · exact Nat.le_of_lt s.lt
    · exact (List.getElem?_eq_some_iff.mp e).1
  have eS : (fun x => x ∈ ks) = Cls m (· ∈ fs) := funext fun x => propext (b3 x)
  refine ⟨ks, b0, fun x => (b3 x).trans ⟨fun ⟨p, hp, r⟩ => ⟨p, (a2 p).mp hp, r⟩, fun ⟨p, hp, r⟩ => ⟨p, (a2 p).mpr hp, r⟩⟩, ⟨b1, b2, by rw [eS]; exact Cls.cl⟩, fun w => ?_, ?_⟩
  · rw [eS, Acc.cls, Acc.step hp.cl a2]
  · refine run_ret (m := m1) (e := [.str m, .tup (iD ps), .str [c], .lst false (iD fs), pv]) rfl rfl ?_ rfl
    show mexs _ 100000000 [] b1_5 [.str m, .tup (iD ps), .str [c], .hole, .hole] = _
    unfold b1_5 s1_0 s1_5 s1_6
    rw [seq_nx (e1 := [.str m, .tup (iD ps), .str [c], .lst true [], .hole]) (by simp only [mex, mev, mevs, mit, bind_ok, of_some, fix, isHole, truthR, truth, clean, cleans, whole, wholes, frz, frzs, lend, back, store, augSem, isOwn, reduceIte, Bool.false_eq_true, Bool.and_true, Bool.true_and, Bool.and_self, Bool.and_false, Bool.false_and, decide_true, decide_false, List.contains_nil, List.elem_nil, Option.map_some, Bool.not_true, Bool.not_false, g0, g1, g2, g3, g4, g5, g6, g7, g8, g9, g10, g11, g12, g13, st0, st1, st2, st3, st4, st5, st6, st7, st8, st9, st10, st11, st12, st13, v_addI, v_subI, v_ltI, v_leI, v_gtI, v_geI, v_eqI, v_neI, v_eqS, v_neS, v_eqB, v_neB, v_lenL, v_lenT]; rfl)]
    rw [seq_nx (e1 := [.str m, .tup (iD ps), .str [c], .lst true (iD fs), pv]) (by
      rw [mex]
      simp only [mit, mev, mevs, bind_ok, g0, g1, g2, g3, clean, cleans_iD, of_some, wholes_iD, frzs_iD, if_true, Bool.false_eq_true, if_false]
      exact a3)]
    refine seq_ret ?_
    simp only [mex, mev, mevs, bind_ok, clean, g0, g3, if_true, whole, wholes_iD, frz, frzs_iD, st3, lend, back, b4]
theorem v_inT {p : Nat} {ks : List Nat} : opV .isin [.int p, .tup (iD ks)] = some (.bl (decide (p ∈ ks))) := by
  have e2 : (iD ks).any (fun y => eqF y (.int p)) = decide (p ∈ ks) := by
    induction ks with
    | nil => rfl
    | cons k r ih =>
      show (((k : Int) == (p : Int)) || (iD r).any fun y => eqF y (.int p)) = _
      rw [ih]
      by_cases h : k = p
      · subst h; simp
      · by_cases h2 : p ∈ r
        · simp [h2]
        · rw [decide_eq_false h2, decide_eq_false (by simp [h2]; exact fun e => h e.symm), Bool.or_false]
          exact beq_eq_false_iff_ne.mpr (by omega)
  have e1 : (iD ks).all flat = true := by simp [flat]
  show (if (true && (iD ks).all flat) = true then some ((iD ks).any fun y => eqF y (.int p)) else none).map D.bl = _
  rw [e1, e2]; rfl
theorem done_ok (n : Nat) {m : List Nat} (hm : m.length ≤ 900) {ps : List Nat} : mcall 100000000 T (n + 1) 2 [.str m, .tup (iD ps)] = some (.bl (decide (m.length ∈ ps)), [.hole, .hole]) := by
  refine run_ret (m := m2) (e := [.str m, .tup (iD ps)]) rfl rfl ?_ rfl
  show mexs _ 100000000 [] b2_0 [.str m, .tup (iD ps)] = _
  unfold b2_0 s2_0
  refine seq_ret ?_
  simp only [mex, mev, mevs, mit, bind_ok, of_some, fix, isHole, truthR, truth, clean, cleans, whole, wholes, frz, frzs, lend, back, store, augSem, isOwn, reduceIte, Bool.false_eq_true, Bool.and_true, Bool.true_and, Bool.and_self, Bool.and_false, Bool.false_and, decide_true, decide_false, List.contains_nil, List.elem_nil, Option.map_some, Bool.not_true, Bool.not_false, g0, g1, g2, g3, g4, g5, g6, g7, g8, g9, g10, g11, g12, g13, st0, st1, st2, st3, st4, st5, st6, st7, st8, st9, st10, st11, st12, st13, v_addI, v_subI, v_ltI, v_leI, v_gtI, v_geI, v_eqI, v_neI, v_eqS, v_neS, v_eqB, v_neB, v_lenL, v_lenT, v_lenS (big_of (show m.length ≤ 1000 by omega)), v_inT]
end Pg
end Mp
set_option maxHeartbeats 0
namespace Mp
namespace Pg
open PySem
theorem cleans_mem {d : D} : ∀ {xs : List D}, cleans xs = true → d ∈ xs → clean d = true
  | x :: xs, h, hd => by
    rw [cleans, Bool.and_eq_true] at h
    rcases List.mem_cons.mp hd with e | hd
    · rw [e]; exact h.1
    · exact cleans_mem h.2 hd
theorem ix_any {o : Bool} {xs : List D} {r : Int} (hc : cleans xs = true) (h0 : 0 ≤ r) (h1 : r < xs.length) : ∃ d, d ∈ xs ∧ opV .ix [.lst o xs, .int r] = some d := by
  have hl : r.toNat < xs.length := by omega
  exact ⟨xs[r.toNat], List.getElem_mem hl, v_ixL (atL_int h0 (List.getElem?_eq_getElem hl)) (cleans_mem hc (List.getElem_mem hl))⟩
theorem deck_ok (n : Nat) (cell : Int) : ∃ a b, 0 ≤ b ∧ b < 2147483579 ∧ mcall 100000000 T (n + 1) 4 [.int cell, .int 0] = some (Dk a b 0, [.hole, .hole]) := by
  have hb : 0 ≤ cell % 2147483579 ∧ cell % 2147483579 < 2147483579 := ⟨Int.emod_nonneg _ (by decide), Int.emod_lt_of_pos _ (by decide)⟩
  have three : ∀ x y z : D, decide (([x, y, z] : List D).length ≤ bigLine) = true := fun x y z => decide_eq_true (show 3 ≤ bigLine by unfold bigLine; omega)
  by_cases h : (10 : Int) ^ (18 : Int).toNat ≤ cell
  · refine ⟨cell - (10 : Int) ^ (18 : Int).toNat, cell % 2147483579, hb.1, hb.2, run_ret (m := m4) (e := [.int cell, .int 0]) rfl rfl ?_ rfl⟩
    show mexs _ 100000000 [] b4_2 [.int cell, .int 0] = _
    unfold b4_2 s4_1 b4_0 s4_0
    refine seq_ret ?_
    rw [ife_t (e1 := [.int cell, .int 0]) (by simp only [mex, mev, mevs, mit, bind_ok, of_some, fix, isHole, truthR, truth, clean, cleans, whole, wholes, frz, frzs, lend, back, store, augSem, isOwn, reduceIte, Bool.false_eq_true, Bool.and_true, Bool.true_and, Bool.and_self, Bool.and_false, Bool.false_and, decide_true, decide_false, List.contains_nil, List.elem_nil, Option.map_some, Bool.not_true, Bool.not_false, g0, g1, g2, g3, g4, g5, g6, g7, g8, g9, g10, g11, g12, g13, st0, st1, st2, st3, st4, st5, st6, st7, st8, st9, st10, st11, st12, st13, v_addI, v_subI, v_ltI, v_leI, v_gtI, v_geI, v_eqI, v_neI, v_eqS, v_neS, v_eqB, v_neB, v_lenL, v_lenT, v_powI (i := 10) (j := 18) (by decide) (by decide) (by decide), decide_eq_true h])]
    refine seq_ret ?_
    simp only [mex, mev, mevs, mit, bind_ok, of_some, fix, isHole, truthR, truth, clean, cleans, whole, wholes, frz, frzs, lend, back, store, augSem, isOwn, reduceIte, Bool.false_eq_true, Bool.and_true, Bool.true_and, Bool.and_self, Bool.and_false, Bool.false_and, decide_true, decide_false, List.contains_nil, List.elem_nil, Option.map_some, Bool.not_true, Bool.not_false, g0, g1, g2, g3, g4, g5, g6, g7, g8, g9, g10, g11, g12, g13, st0, st1, st2, st3, st4, st5, st6, st7, st8, st9, st10, st11, st12, st13, v_addI, v_subI, v_ltI, v_leI, v_gtI, v_geI, v_eqI, v_neI, v_eqS, v_neS, v_eqB, v_neB, v_lenL, v_lenT, v_powI (i := 10) (j := 18) (by decide) (by decide) (by decide), v_modI (j := 2147483579) (by decide), three, if_true, Bool.false_eq_true, if_false]
  · refine ⟨0, cell % 2147483579, hb.1, hb.2, run_ret (m := m4) (e := [.int cell, .int 0]) rfl rfl ?_ rfl⟩
    show mexs _ 100000000 [] b4_2 [.int cell, .int 0] = _
    unfold b4_2 s4_1 b4_1 s4_2
    rw [seq_nx (e1 := [.int cell, .int 0]) ((ife_f (by simp only [mex, mev, mevs, mit, bind_ok, of_some, fix, isHole, truthR, truth, clean, cleans, whole, wholes, frz, frzs, lend, back, store, augSem, isOwn, reduceIte, Bool.false_eq_true, Bool.and_true, Bool.true_and, Bool.and_self, Bool.and_false, Bool.false_and, decide_true, decide_false, List.contains_nil, List.elem_nil, Option.map_some, Bool.not_true, Bool.not_false, g0, g1, g2, g3, g4, g5, g6, g7, g8, g9, g10, g11, g12, g13, st0, st1, st2, st3, st4, st5, st6, st7, st8, st9, st10, st11, st12, st13, v_addI, v_subI, v_ltI, v_leI, v_gtI, v_geI, v_eqI, v_neI, v_eqS, v_neS, v_eqB, v_neB, v_lenL, v_lenT, v_powI (i := 10) (j := 18) (by decide) (by decide) (by decide), decide_eq_false h])).trans seq_nil)]
    refine seq_ret ?_
    simp only [mex, mev, mevs, mit, bind_ok, of_some, fix, isHole, truthR, truth, clean, cleans, whole, wholes, frz, frzs, lend, back, store, augSem, isOwn, reduceIte, Bool.false_eq_true, Bool.and_true, Bool.true_and, Bool.and_self, Bool.and_false, Bool.false_and, decide_true, decide_false, List.contains_nil, List.elem_nil, Option.map_some, Bool.not_true, Bool.not_false, g0, g1, g2, g3, g4, g5, g6, g7, g8, g9, g10, g11, g12, g13, st0, st1, st2, st3, st4, st5, st6, st7, st8, st9, st10, st11, st12, st13, v_addI, v_subI, v_ltI, v_leI, v_gtI, v_geI, v_eqI, v_neI, v_eqS, v_neS, v_eqB, v_neB, v_lenL, v_lenT, v_modI (j := 2147483579) (by decide), three, if_true, Bool.false_eq_true, if_false]
/-- the deck stands -/
structure Dok (b c : Int) (room : Int) : Prop where
  b0 : 0 ≤ b
  b1 : b < 2147483579
  c0 : 0 ≤ c
  c1 : c + room < 1000000
theorem pick (n : Nat) {a b c many : Int} {room : Int} (h : Dok b c (room + 1)) (h1 : 0 < many) (h2 : many ≤ 1000000) (hr : 0 ≤ room) :
    ∃ r a' c', 0 ≤ r ∧ r < many ∧ Dok b c' room ∧ mcall 100000000 T (n + 1) 5 [Dk a b c, .int many] = some (.int r, [Dk a' b c', .hole]) := by
  have := h.c1
  have := h.c0
  have := h.b1
  obtain ⟨r, a', c', p1, p2, p3, p4, p5⟩ := pick_ok n (a := a) (b := b) (c := c) (many := many) h1 h2 h.b0 (by omega) h.c0 (by omega)
  exact ⟨r, a', c', p1, p2, ⟨h.b0, h.b1, by omega, by omega⟩, p5⟩
theorem Dok.le {b c r r' : Int} (h : Dok b c r) (hr : r' ≤ r) : Dok b c r' := ⟨h.b0, h.b1, h.c0, by have := h.c1; omega⟩
/-! ### masks -/
/-- a mask's sign -/
def mch (c : Nat) : Prop := c ∈ [97, 98, 42, 63, 64, 48]
def one (d : D) : Prop := ∃ ch, d = .str [ch] ∧ mch ch
theorem for6_ok {n : Nat} {b : Int} {most : D} {sg : List D} (hc : cleans sg = true) (h1 : ∀ d ∈ sg, one d) (hl : 0 < sg.length) (hl2 : sg.length ≤ 10) : ∀ (its : List D) (a c room : Int) (x : List Nat) (pv : D), 0 ≤ room → Dok b c (room + its.length) → x.length + its.length ≤ 900 → (∀ s ∈ x, mch s) →
    ∃ a' c' x' pv', x'.length = x.length + its.length ∧ (∀ s ∈ x', mch s) ∧ Dok b c' room ∧
      forL (fun x e2 => (R.of (store [0] (.nm 4) x e2) e2).bind fun e3 _ => mexs (mcall 100000000 T (n + 1)) 100000000 [0] b6_0 e3) its [Dk a b c, most, .lst true sg, .str x, pv] = .ok .nx [Dk a' b c', most, .lst true sg, .str x', pv']
  | [], a, c, room, x, pv, hr, hd, hx, ha => ⟨a, c, x, pv, rfl, ha, by simpa using hd, rfl⟩
  | it :: its, a, c, room, x, pv, hr, hd, hx, ha => by
    simp only [List.length_cons] at hd hx
    obtain ⟨r, a1, c1, r0, r1, hd1, e1⟩ := pick n (a := a) (many := (sg.length : Int)) (room := room + its.length) (h := hd.le (by omega)) (by omega) (by omega) (by omega)
    obtain ⟨d, dm, e2⟩ := ix_any (o := true) hc r0 r1
    obtain ⟨ch, rfl, hch⟩ := h1 d dm
    obtain ⟨a2, c2, x2, pv2, q1, q0, q2, q3⟩ := for6_ok (n := n) (most := most) hc h1 hl hl2 its a1 c1 room (x ++ [ch]) it hr hd1 (by rw [List.length_append]; simp; omega) (fun s hs => (List.mem_append.mp hs).elim (ha s) fun h => by rw [List.mem_singleton] at h; exact h ▸ hch)
    refine ⟨a2, c2, x2, pv2, by rw [q1, List.length_append]; simp; omega, q0, q2, ?_⟩
    rw [forL]
    have body : mexs (mcall 100000000 T (n + 1)) 100000000 [0] b6_0 [Dk a b c, most, .lst true sg, .str x, it] = .ok .nx [Dk a1 b c1, most, .lst true sg, .str (x ++ [ch]), it] := by
      unfold b6_0 s6_2
      refine (seq_nx ?_).trans seq_nil
      simp only [mex, mev, mevs, mit, bind_ok, of_some, fix, isHole, truthR, truth, clean, cleans, whole, wholes, frz, frzs, lend, back, store, augSem, isOwn, reduceIte, Bool.false_eq_true, Bool.and_true, Bool.true_and, Bool.and_self, Bool.and_false, Bool.false_and, decide_true, decide_false, List.contains_nil, List.elem_nil, Option.map_some, Bool.not_true, Bool.not_false, g0, g1, g2, g3, g4, g5, g6, g7, g8, g9, g10, g11, g12, g13, st0, st1, st2, st3, st4, st5, st6, st7, st8, st9, st10, st11, st12, st13, v_addI, v_subI, v_ltI, v_leI, v_gtI, v_geI, v_eqI, v_neI, v_eqS, v_neS, v_eqB, v_neB, v_lenL, v_lenT, e1, e2, v_addS (x := x) (y := [ch]) (by unfold bigLine; simp; omega)]
      rfl
    have st : store [0] (.nm 4) it [Dk a b c, most, .lst true sg, .str x, pv] = some [Dk a b c, most, .lst true sg, .str x, it] := rfl
    simp only [st, of_some, bind_ok, body]
    exact q3
theorem mask_ok (n : Nat) {a b c : Int} {room : Int} (most : Int) (hm : 0 < most) (hm2 : most ≤ 100) (hr : 0 ≤ room) (h : Dok b c (room + 200)) :
    ∃ m a' c', 1 ≤ (m : List Nat).length ∧ (m : List Nat).length ≤ most ∧ (∀ s ∈ m, mch s) ∧ Dok b c' room ∧ mcall 100000000 T (n + 2) 6 [Dk a b c, .int most] = some (.str m, [Dk a' b c', .hole]) := by
  obtain ⟨r, a1, c1, r0, r1, d1, e1⟩ := pick n (a := a) (many := 3) (room := room + 150) (h := h.le (by omega)) (by decide) (by decide) (by omega)
  obtain ⟨s, a2, c2, s0, s1, d2, e2⟩ := pick n (a := a1) (many := most) (room := room + 120) (h := d1.le (by omega)) hm (by omega) (by omega)
  let sg6 : List D := [.str [97], .str [98], .str [42], .str [63], .str [64], .str [48]]
  obtain ⟨k, hk, e3⟩ : ∃ k : Nat, (k = 4 ∨ k = 6) ∧ opV .ix [.lst true [.int 4, .int 4, .int 6], .int r] = some (.int (k : Nat)) := by
    have : r = 0 ∨ r = 1 ∨ r = 2 := by omega
    rcases this with rfl | rfl | rfl
    · exact ⟨4, .inl rfl, rfl⟩
    · exact ⟨4, .inl rfl, rfl⟩
    · exact ⟨6, .inr rfl, rfl⟩
  have hsg : cleans (sg6.take k) = true ∧ (∀ d ∈ sg6.take k, one d) ∧ 0 < (sg6.take k).length ∧ (sg6.take k).length ≤ 10 := by
    rcases hk with rfl | rfl
    · refine ⟨rfl, fun d hd => ?_, by decide, by decide⟩
      simp [sg6] at hd
      rcases hd with rfl | rfl | rfl | rfl <;> exact ⟨_, rfl, by simp [mch]⟩
    · refine ⟨rfl, fun d hd => ?_, by decide, by decide⟩
      simp [sg6] at hd
      rcases hd with rfl | rfl | rfl | rfl | rfl | rfl <;> exact ⟨_, rfl, by simp [mch]⟩
  have hits : ((List.range (1 + s).toNat).map fun (i : Nat) => D.int i).length = (1 + s).toNat := by simp
  obtain ⟨a3, c3, m, pv, q1, q0, q2, q3⟩ := for6_ok (n := n) (most := .int most) hsg.1 hsg.2.1 hsg.2.2.1 hsg.2.2.2 ((List.range (1 + s).toNat).map fun (i : Nat) => D.int i) a2 c2 room [] .hole hr (by rw [hits]; exact d2.le (by omega)) (by rw [hits]; simp; omega) (fun s h => nomatch h)
  refine ⟨m, a3, c3, by rw [q1, hits]; simp; omega, by rw [q1, hits]; simp; omega, q0, q2, run_ret (m := m6) (e := [Dk a3 b c3, .int most, .lst true (sg6.take k), .hole, pv]) rfl rfl ?_ rfl⟩
  show mexs _ 100000000 [0] b6_1 [Dk a b c, .int most, .hole, .hole, .hole] = _
  unfold b6_1 s6_0 s6_1 s6_3 s6_4
  have six : ∀ x1 x2 x3 x4 x5 x6 : D, decide (([x1, x2, x3, x4, x5, x6] : List D).length ≤ bigLine) = true := fun _ _ _ _ _ _ => decide_eq_true (show 6 ≤ bigLine by unfold bigLine; omega)
  have three : ∀ x y z : D, decide (([x, y, z] : List D).length ≤ bigLine) = true := fun x y z => decide_eq_true (show 3 ≤ bigLine by unfold bigLine; omega)
  have sl : opV (.sl false true) [.lst true [.str [97], .str [98], .str [42], .str [63], .str [64], .str [48]], .int (k : Int)] = some (.lst true (sg6.take k)) := v_slHL (xs := sg6) rfl
  rw [seq_nx (e1 := [Dk a1 b c1, .int most, .lst true (sg6.take k), .hole, .hole]) (by
    simp only [mex, mev, mevs, mit, bind_ok, of_some, fix, isHole, truthR, truth, clean, cleans, whole, wholes, frz, frzs, lend, back, store, augSem, isOwn, reduceIte, Bool.false_eq_true, Bool.and_true, Bool.true_and, Bool.and_self, Bool.and_false, Bool.false_and, decide_true, decide_false, List.contains_nil, List.elem_nil, Option.map_some, Bool.not_true, Bool.not_false, g0, g1, g2, g3, g4, g5, g6, g7, g8, g9, g10, g11, g12, g13, st0, st1, st2, st3, st4, st5, st6, st7, st8, st9, st10, st11, st12, st13, v_addI, v_subI, v_ltI, v_leI, v_gtI, v_geI, v_eqI, v_neI, v_eqS, v_neS, v_eqB, v_neB, v_lenL, v_lenT, six, three, if_true, Bool.false_eq_true, if_false, e1, e3, sl]
    rfl)]
  rw [seq_nx (e1 := [Dk a1 b c1, .int most, .lst true (sg6.take k), .str [], .hole]) (by simp only [mex, mev, mevs, mit, bind_ok, of_some, fix, isHole, truthR, truth, clean, cleans, whole, wholes, frz, frzs, lend, back, store, augSem, isOwn, reduceIte, Bool.false_eq_true, Bool.and_true, Bool.true_and, Bool.and_self, Bool.and_false, Bool.false_and, decide_true, decide_false, List.contains_nil, List.elem_nil, Option.map_some, Bool.not_true, Bool.not_false, g0, g1, g2, g3, g4, g5, g6, g7, g8, g9, g10, g11, g12, g13, st0, st1, st2, st3, st4, st5, st6, st7, st8, st9, st10, st11, st12, st13, v_addI, v_subI, v_ltI, v_leI, v_gtI, v_geI, v_eqI, v_neI, v_eqS, v_neS, v_eqB, v_neB, v_lenL, v_lenT]; rfl)]
  rw [seq_nx (e1 := [Dk a3 b c3, .int most, .lst true (sg6.take k), .str m, pv]) (by
    rw [mex]
    have sm : smallI (1 + s) = true := by unfold smallI; simp; omega
    simp only [mit, mex, mev, mevs, mit, bind_ok, of_some, fix, isHole, truthR, truth, clean, cleans, whole, wholes, frz, frzs, lend, back, store, augSem, isOwn, reduceIte, Bool.false_eq_true, Bool.and_true, Bool.true_and, Bool.and_self, Bool.and_false, Bool.false_and, decide_true, decide_false, List.contains_nil, List.elem_nil, Option.map_some, Bool.not_true, Bool.not_false, g0, g1, g2, g3, g4, g5, g6, g7, g8, g9, g10, g11, g12, g13, st0, st1, st2, st3, st4, st5, st6, st7, st8, st9, st10, st11, st12, st13, v_addI, v_subI, v_ltI, v_leI, v_gtI, v_geI, v_eqI, v_neI, v_eqS, v_neS, v_eqB, v_neB, v_lenL, v_lenT, e2, sm]
    exact q3)]
  exact seq_ret (by simp only [mex, mev, mevs, mit, bind_ok, of_some, fix, isHole, truthR, truth, clean, cleans, whole, wholes, frz, frzs, lend, back, store, augSem, isOwn, reduceIte, Bool.false_eq_true, Bool.and_true, Bool.true_and, Bool.and_self, Bool.and_false, Bool.false_and, decide_true, decide_false, List.contains_nil, List.elem_nil, Option.map_some, Bool.not_true, Bool.not_false, g0, g1, g2, g3, g4, g5, g6, g7, g8, g9, g10, g11, g12, g13, st0, st1, st2, st3, st4, st5, st6, st7, st8, st9, st10, st11, st12, st13, v_addI, v_subI, v_ltI, v_leI, v_gtI, v_geI, v_eqI, v_neI, v_eqS, v_neS, v_eqB, v_neB, v_lenL, v_lenT])
end Pg
end Mp
set_option maxHeartbeats 0
namespace Mp
namespace Pg
open PySem
theorem ih_str (x : List Nat) : isHole (.str x) = false := rfl
theorem ih_int (x : Int) : isHole (.int x) = false := rfl
theorem ih_tup (x : List D) : isHole (.tup x) = false := rfl
theorem ih_lst (o : Bool) (x : List D) : isHole (.lst o x) = false := rfl
theorem ih_dic (o : Bool) (x y : List D) : isHole (.dic o x y) = false := rfl
theorem ih_bl (x : Bool) : isHole (.bl x) = false := rfl
theorem ih_non : isHole .non = false := rfl
theorem cl_str (x : List Nat) : clean (.str x) = true := rfl
theorem cl_int (x : Int) : clean (.int x) = true := rfl
theorem cl_bl (x : Bool) : clean (.bl x) = true := rfl
theorem cl_non : clean .non = true := rfl
theorem cl_tup (x : List D) : clean (.tup x) = cleans x := by rw [clean]
theorem cl_lst (x : List D) : clean (.lst false x) = cleans x := by rw [clean]; rfl
theorem wh_str (x : List Nat) : whole (.str x) = true := rfl
theorem wh_int (x : Int) : whole (.int x) = true := rfl
theorem wh_bl (x : Bool) : whole (.bl x) = true := rfl
theorem wh_non : whole .non = true := rfl
theorem wh_tup (x : List D) : whole (.tup x) = wholes x := by rw [whole]
theorem wh_lst (o : Bool) (x : List D) : whole (.lst o x) = wholes x := by rw [whole]
/-! ### rows of places -/
open Classical in
noncomputable def rowOf (m : List Nat) (P : Nat → Prop) : List Nat := (List.range (m.length + 1)).filter fun x => decide (P x)
open Classical in
theorem row_mem {m : List Nat} {P : Nat → Prop} {x : Nat} : x ∈ rowOf m P ↔ x < m.length + 1 ∧ P x := by
  unfold rowOf
  rw [List.mem_filter, List.mem_range, decide_eq_true_iff]
theorem rowOf_eq {m ks : List Nat} {P : Nat → Prop} (hs : ks.Pairwise (· < ·)) (hb : ∀ k ∈ ks, k ≤ m.length) (hm : ∀ x, x ∈ ks ↔ P x) : ks = rowOf m P := by
  refine sorted_ext hs (show (rowOf m P).Pairwise (· < ·) from (range_sorted _).filter _) fun x => ?_
  rw [row_mem, hm]
  exact ⟨fun h => ⟨by have := hb x ((hm x).mpr h); omega, h⟩, fun h => h.2⟩
noncomputable def row0 (m : List Nat) : List Nat := rowOf m (Cls m (· ∈ [0]))
noncomputable def rstep (m r : List Nat) (c : Nat) : List Nat := rowOf m (Cls m (StepS m c (· ∈ r)))
theorem row_pw (m : List Nat) (P : Nat → Prop) : rowOf m P ∈ pw (List.range (m.length + 1)) := pw_filter _ _
theorem spread0 (n : Nat) {m : List Nat} (hm : m.length ≤ 900) : mcall 100000000 T (n + 1) 0 [.str m, .lst true [.int 0]] = some (.tup (iD (row0 m)), [.hole, .hole]) ∧ Pl m (row0 m) ∧ ∀ w, Acc m (· ∈ row0 m) w ↔ M m w := by
  obtain ⟨ks, b0, b1, b2, b3, b4⟩ := spread_ok n hm (o := true) (ps := [0]) (by simp)
  have e : ks = row0 m := rowOf_eq b0 b1 b3
  have eS : (fun x => x ∈ ks) = Cls m (· ∈ [0]) := funext fun x => propext (b3 x)
  rw [← e]
  refine ⟨b4, ⟨b1, b2, by rw [eS]; exact Cls.cl⟩, fun w => ?_⟩
  rw [eS, Acc.cls]
  constructor
  · rintro ⟨p, hp, _, k⟩
    simp at hp
    subst hp
    exact k
  · intro k
    exact ⟨0, by simp, Nat.zero_le _, k⟩
theorem stepped1 (n : Nat) {m r : List Nat} (hm : m.length ≤ 900) (c : Nat) (hp : Pl m r) : mcall 100000000 T (n + 2) 1 [.str m, .tup (iD r), .str [c]] = some (.tup (iD (rstep m r c)), [.hole, .hole, .hole]) ∧ Pl m (rstep m r c) ∧ ∀ w, Acc m (· ∈ rstep m r c) w ↔ Acc m (· ∈ r) (c :: w) := by
  obtain ⟨ks, b0, b1, b2, b3, b4⟩ := stepped_ok n hm c hp
  have e : ks = rstep m r c := rowOf_eq b0 b2.le b1
  rw [← e]
  exact ⟨b4, b2, b3⟩
abbrev SS := List Nat × List Nat
noncomputable def sst (m o : List Nat) (s : SS) (c : Nat) : SS := (rstep m s.1 c, rstep o s.2 c)
def sdead (s : SS) : Prop := s.2 = []
def sgoal (m o : List Nat) (s : SS) : Prop := o.length ∈ s.2 ∧ m.length ∉ s.1
noncomputable def ss0 (m o : List Nat) : SS := (row0 m, row0 o)
theorem run_acc {m o : List Nat} (hm : m.length ≤ 900) (ho : o.length ≤ 900) : ∀ (w : List Nat) (s : SS), Pl m s.1 → Pl o s.2 →
    (Pl m (runS (sst m o) s w).1 ∧ Pl o (runS (sst m o) s w).2) ∧ ∀ v, (Acc m (· ∈ (runS (sst m o) s w).1) v ↔ Acc m (· ∈ s.1) (w ++ v)) ∧ (Acc o (· ∈ (runS (sst m o) s w).2) v ↔ Acc o (· ∈ s.2) (w ++ v))
  | [], s, h1, h2 => ⟨⟨h1, h2⟩, fun v => ⟨Iff.rfl, Iff.rfl⟩⟩
  | c :: w, s, h1, h2 => by
    obtain ⟨_, p1, a1⟩ := stepped1 0 hm c h1
    obtain ⟨_, p2, a2⟩ := stepped1 0 ho c h2
    obtain ⟨q1, q2⟩ := run_acc hm ho w (sst m o s c) p1 p2
    exact ⟨q1, fun v => ⟨(q2 v).1.trans (a1 _), (q2 v).2.trans (a2 _)⟩⟩
theorem goal_iff {m o : List Nat} (hm : m.length ≤ 900) (ho : o.length ≤ 900) (w : List Nat) : sgoal m o (runS (sst m o) (ss0 m o) w) ↔ M o w ∧ ¬ M m w := by
  obtain ⟨_, p1, a1⟩ := spread0 0 hm
  obtain ⟨_, p2, a2⟩ := spread0 0 ho
  obtain ⟨⟨q1, q2⟩, q3⟩ := run_acc hm ho w (ss0 m o) p1 p2
  have r1 := (q3 []).1
  have r2 := (q3 []).2
  rw [Acc.nil q1.cl, List.append_nil, show (ss0 m o).1 = row0 m from rfl, a1] at r1
  rw [Acc.nil q2.cl, List.append_nil, show (ss0 m o).2 = row0 o from rfl, a2] at r2
  unfold sgoal
  rw [r1, r2]
theorem rstep_nil {o : List Nat} {c : Nat} : rstep o [] c = [] := by
  refine List.eq_nil_iff_forall_not_mem.mpr fun x h => ?_
  obtain ⟨_, q, ⟨p, hp, _⟩, _⟩ := row_mem.mp h
  cases hp
theorem dead_no {m o : List Nat} : ∀ (s : SS) (w : List Nat), sdead s → ¬ sgoal m o (runS (sst m o) s w)
  | s, [], h, g => by
    have h : s.2 = [] := h
    have g : o.length ∈ s.2 := g.1
    rw [h] at g
    cases g
  | s, c :: w, h, g => dead_no (sst m o s c) w (by show rstep o s.2 c = []; rw [show s.2 = [] from h]; exact rstep_nil) g
/-! ### pairs of rows as keys -/
def kD (s : SS) : D := .tup [.tup (iD s.1), .tup (iD s.2)]
theorem nks_iD : ∀ r : List Nat, nksOf (iD r) = r.map fun (k : Nat) => NestedKey.num k
  | [] => by rw [iD, List.map_nil, nksOf]; rfl
  | k :: r => by
    show nksOf (.int k :: iD r) = _
    rw [nksOf, nkOf, nks_iD r]
    rfl
theorem nk_kD (s : SS) : nkOf (kD s) = .tup [.tup (s.1.map fun (k : Nat) => NestedKey.num k), .tup (s.2.map fun (k : Nat) => NestedKey.num k)] := by
  unfold kD
  rw [nkOf, nksOf, nksOf, nksOf, nkOf, nkOf, nks_iD, nks_iD]
theorem num_inj : ∀ {a b : List Nat}, (a.map fun (k : Nat) => NestedKey.num k) = (b.map fun (k : Nat) => NestedKey.num k) → a = b
  | [], [], _ => rfl
  | [], _ :: _, h => by simp at h
  | _ :: _, [], h => by simp at h
  | x :: a, y :: b, h => by
    rw [List.map_cons, List.map_cons] at h
    injection h with h1 h2
    injection h1 with h1
    rw [num_inj h2, show x = y by omega]
theorem same_kD (s t : SS) : sameN (kD s) (kD t) = decide (s = t) := by
  rw [Bool.eq_iff_iff, sameN_iff, decide_eq_true_iff, nk_kD, nk_kD]
  constructor
  · intro h
    injection h with h
    injection h with h1 h2
    injection h1 with h1
    injection h2 with h2 _
    injection h2 with h2
    exact Prod.ext (num_inj h1) (num_inj h2)
  · rintro rfl
    rfl
theorem keys_iD : ∀ r : List Nat, keyDs (iD r) = true
  | [] => by rw [iD, List.map_nil, keyDs]
  | k :: r => by
    show keyDs (.int k :: iD r) = true
    rw [keyDs, keyD, keys_iD r]
    rfl
theorem depth_num : ∀ r : List Nat, NestedKey.depthAll (r.map fun (k : Nat) => NestedKey.num k) = 0
  | [] => by rw [List.map_nil, NestedKey.depthAll]
  | k :: r => by rw [List.map_cons, NestedKey.depthAll, NestedKey.depth, depth_num r]; rfl
theorem key_kD (s : SS) : keyT (kD s) = true := by
  have e := nk_kD s
  unfold kD at e ⊢
  rw [keyT, e]
  have h1 : keyDs [.tup (iD s.1), .tup (iD s.2)] = true := by rw [keyDs, keyDs, keyDs, keyD, keyD, keys_iD, keys_iD]; rfl
  have h2 : (NestedKey.tup [.tup (s.1.map fun (k : Nat) => NestedKey.num k), .tup (s.2.map fun (k : Nat) => NestedKey.num k)]).depth ≤ 8 := by
    rw [NestedKey.depth, NestedKey.depthAll, NestedKey.depthAll, NestedKey.depthAll, NestedKey.depth, NestedKey.depth, depth_num, depth_num]
    decide
  rw [h1, decide_eq_true h2]
  rfl
theorem keys_kD (L : List SS) : (L.map kD).all keyT = true := by
  rw [List.all_map, List.all_eq_true]
  exact fun s _ => key_kD s
theorem any_kD (t : SS) : ∀ L : List SS, ((L.map kD).any fun k => sameN k (kD t)) = decide (t ∈ L)
  | [] => rfl
  | s :: L => by
    rw [List.map_cons, List.any_cons, same_kD, any_kD t L]
    by_cases h : s = t
    · subst h; simp
    · have h2 : ¬ t = s := fun e => h e.symm
      simp [h, h2]
theorem v_notinK {t : SS} {L : List SS} {vs : List D} {o : Bool} : opV .notin [kD t, .dic o (L.map kD) vs] = some (.bl (!decide (t ∈ L))) := by
  have h : semIn (kD t) (.dic o (L.map kD) vs) = some (decide (t ∈ L)) := by
    show (if (keyT (kD t) && (L.map kD).all keyT) = true then some ((L.map kD).any fun k => sameN k (kD t)) else none) = _
    rw [key_kD, keys_kD, any_kD]
    rfl
  show (semIn (kD t) (.dic o (L.map kD) vs)).map (fun r => D.bl (!r)) = _
  rw [h]
  rfl
theorem putN_new {t : SS} {d : D} : ∀ {L : List SS} {vs : List D}, t ∉ L → vs.length = L.length → putN (L.map kD) vs (kD t) d = ((L ++ [t]).map kD, vs ++ [d])
  | [], [], _, _ => rfl
  | s :: L, v :: vs, h, hl => by
    rw [List.mem_cons, not_or] at h
    have ih := putN_new (d := d) h.2 (show vs.length = L.length by simpa using hl)
    show putN (kD s :: L.map kD) (v :: vs) (kD t) d = _
    unfold putN
    rw [same_kD, decide_eq_false (fun e => h.1 e.symm), ih]
    rfl
  | [], _ :: _, _, hl => by simp at hl
  | _ :: _, [], _, hl => by simp at hl
theorem set_newK {t : SS} {L : List SS} {vs : List D} {d : D} (h : t ∉ L) (hl : vs.length = L.length) (hb : L.length < bigLine) : setSem (.dic true (L.map kD) vs) (kD t) d = some (.dic true ((L ++ [t]).map kD) (vs ++ [d])) := by
  show (if (keyT (kD t) && (L.map kD).all keyT && decide ((L.map kD).length < bigLine) && decide ((L.map kD).length = vs.length)) = true then some (D.dic true (putN (L.map kD) vs (kD t) d).1 (putN (L.map kD) vs (kD t) d).2) else none) = _
  rw [putN_new h hl, key_kD, keys_kD, List.length_map, decide_eq_true hb, decide_eq_true hl.symm]
  rfl
theorem clean_kD (s : SS) : clean (kD s) = true := by
  unfold kD
  simp only [clean, cleans, cleans_iD, Bool.and_self]
theorem whole_kD (s : SS) : whole (kD s) = true := by
  unfold kD
  simp only [whole, wholes, wholes_iD, Bool.and_self]
theorem isHole_kD (s : SS) : isHole (kD s) = false := rfl
theorem v_ixK {s : SS} : opV .ix [kD s, .int 1] = some (.tup (iD s.2)) := by
  show ((atL [D.tup (iD s.1), D.tup (iD s.2)] 1).bind fun d => if clean d = true then some d else none) = _
  rw [show atL [D.tup (iD s.1), D.tup (iD s.2)] 1 = some (.tup (iD s.2)) from ix1 _ _ _]
  show (if clean (.tup (iD s.2)) = true then some (D.tup (iD s.2)) else none) = _
  rw [if_pos]
  simp only [clean, cleans_iD]
theorem pds_iD : ∀ ks : List Nat, PyData.canLayAll0 (pds (iD ks)) = true ∧ PyData.depthAll (pds (iD ks)) = 0
  | [] => ⟨by simp [pds, PyData.canLayAll0], by simp [pds, PyData.depthAll]⟩
  | k :: r => by
    obtain ⟨h1, h2⟩ := pds_iD r
    show PyData.canLayAll0 (.int k :: pds (iD r)) = true ∧ PyData.depthAll (.int k :: pds (iD r)) = 0
    simp [PyData.canLayAll0, PyData.canLay0, PyData.depthAll, PyData.depth, h1, h2]
theorem shaped_tD (ks : List Nat) : SeqAt.shaped (.tuple (pds (iD ks))) = true := by
  obtain ⟨h1, h2⟩ := pds_iD ks
  show (PyData.canLay0 (.tuple (pds (iD ks))) && decide (PyData.depth (.tuple (pds (iD ks))) ≤ 64)) = true
  simp [PyData.canLay0, PyData.depth, h1, h2]
theorem plains_iD : ∀ ks : List Nat, plains (iD ks) = true
  | [] => rfl
  | k :: r => by show (plain (.int k) && plains (iD r)) = true; rw [plains_iD r]; rfl
theorem v_neT0 {ks : List Nat} : opV .ne [.tup (iD ks), .tup []] = some (.bl (!decide (ks = []))) := by
  have e : eqD (.tup (iD ks)) (.tup []) = some (decide (ks = [])) := by
    have s0 := shaped_tD []
    have s1 := shaped_tD ks
    show (match plains (iD ks) && true && SeqAt.shaped (.tuple (pds (iD ks))) && SeqAt.shaped (.tuple (pds (iD []))) with
      | true => some (PyData.eqv (.tuple (pds (iD ks))) (.tuple (pds (iD []))))
      | false => none) = _
    rw [plains_iD, s0, s1]
    show some (PyData.eqv (.tuple (pds (iD ks))) (.tuple [])) = _
    cases ks with
    | nil => rfl
    | cons k r =>
      show some (PyData.eqv (.tuple (.int k :: pds (iD r))) (.tuple [])) = _
      simp [PyData.eqv, PyData.eqvAll]
  show (eqD (.tup (iD ks)) (.tup [])).map (fun r => D.bl (!r)) = _
  rw [e]; rfl
end Pg
end Mp
set_option maxHeartbeats 0
namespace Mp
namespace Pg
open PySem
/-! ### the walk of covers -/
abbrev SG : List Nat := [48, 49, 50, 51, 52, 53, 54, 55, 56, 57, 64, 97, 98, 99, 100, 101, 102, 103, 104, 105, 106, 107, 108, 109, 110, 111, 112, 113, 114, 115, 116, 117, 118, 119, 120, 121, 122]
def lD (p : SS × List Nat) : D := .tup [kD p.1, .str p.2]
def EnC (m o : List Nat) (sp : Nat) (x3 : D) (s0 : SS) (L : List (SS × List Nat)) (k : Nat) (x8 x9 x10 x11 x12 : D) : Env :=
  [.str m, .str o, .str [sp], x3, kD s0, .dic true ((L.map (·.1)).map kD) (L.map fun _ => D.bl true), .lst true (L.map lD), .int k, x8, x9, x10, x11, x12]
theorem clean_lD (p : SS × List Nat) : clean (lD p) = true := by
  unfold lD
  simp only [clean, cleans, clean_kD, Bool.and_self]
theorem v_ixLine {L : List (SS × List Nat)} {k : Nat} {p : SS × List Nat} (h : L[k]? = some p) : opV .ix [.lst true (L.map lD), .int k] = some (lD p) :=
  v_ixL (atL_nat (by rw [List.getElem?_map, h]; rfl)) (clean_lD p)
theorem st_tn {a0 a1 a2 a3 a4 a5 a6 a7 a8 a9 a10 a11 a12 : D} {s : SS} {u : List Nat} : store [] (.tn [11, 12] 9) (lD (s, u)) [a0, a1, a2, a3, a4, a5, a6, a7, a8, a9, a10, a11, a12] = some [a0, a1, a2, a3, a4, a5, a6, a7, a8, .str u, a10, .tup (iD s.1), .tup (iD s.2)] := rfl
theorem app_line {L : List (SS × List Nat)} {p : SS × List Nat} (h : L.length < bigLine) : appSem (.lst true (L.map lD)) (lD p) = some (.lst true ((L ++ [p]).map lD)) := by
  show (if (L.map lD).length < bigLine then some (D.lst true (L.map lD ++ [lD p])) else none) = _
  rw [List.length_map, if_pos h, List.map_append]
  rfl
theorem two (a b : D) : decide (([a, b] : List D).length ≤ bigLine) = true := decide_eq_true (show 2 ≤ bigLine by unfold bigLine; omega)
theorem wh2 {r q : List Nat} : wholes [.tup (iD r), .tup (iD q)] = true := by simp only [wholes, whole, wholes_iD, Bool.and_self]
theorem body_in (n : Nat) {m o : List Nat} (hm : m.length ≤ 900) (ho : o.length ≤ 900) {sp : Nat} {x3 : D} {s0 s : SS} {L : List (SS × List Nat)} {k : Nat} {u : List Nat} {x10 : D} {c : Nat} (h1 : Pl m s.1) (h2 : Pl o s.2) (hL : L.length < 10000000) (hu : u.length < 10000000) :
    mexs (mcall 100000000 T (n + 2)) 100000000 [] b3_4 (EnC m o sp x3 s0 L k (.str [c]) (.str u) x10 (.tup (iD s.1)) (.tup (iD s.2))) =
      .ok .nx (EnC m o sp x3 s0 (grow (sdead (sst m o s c) ∨ sst m o s c ∈ L.map (·.1)) L (sst m o s c, u ++ [c])) k (.str [c]) (.str u) (kD (sst m o s c)) (.tup (iD s.1)) (.tup (iD s.2))) := by
  obtain ⟨e1, _, _⟩ := stepped1 n hm c h1
  obtain ⟨e2, _, _⟩ := stepped1 n ho c h2
  unfold b3_4 s3_10
  rw [seq_nx (e1 := EnC m o sp x3 s0 L k (.str [c]) (.str u) (kD (sst m o s c)) (.tup (iD s.1)) (.tup (iD s.2))) (by
    unfold EnC
    simp only [mex, mev, mevs, mit, bind_ok, of_some, fix, truthR, truth, cleans, wholes, frz, frzs, lend, back, store, augSem, isOwn, reduceIte, Bool.false_eq_true, Bool.and_true, Bool.true_and, Bool.and_self, Bool.and_false, Bool.false_and, decide_true, decide_false, List.contains_nil, List.elem_nil, Option.map_some, Bool.not_true, Bool.not_false, g0, g1, g2, g3, g4, g5, g6, g7, g8, g9, g10, g11, g12, g13, st0, st1, st2, st3, st4, st5, st6, st7, st8, st9, st10, st11, st12, st13, v_addI, v_subI, v_ltI, v_leI, v_gtI, v_geI, v_eqI, v_neI, v_eqS, v_neS, v_eqB, v_neB, v_lenL, v_lenT, ih_str, ih_int, ih_tup, ih_lst, ih_dic, ih_bl, ih_non, cl_str, cl_int, cl_bl, cl_non, cl_tup, cl_lst, wh_str, wh_int, wh_bl, wh_non, wh_tup, wh_lst, cleans_iD, e1, e2, wholes_iD, two, if_true]
    rfl)]
  refine (seq_nx ?_).trans seq_nil
  generalize hT : sst m o s c = t
  unfold s3_13 EnC
  by_cases hd : t.2 = []
  · rw [grow_t (show sdead t ∨ t ∈ L.map (·.1) from Or.inl hd)]
    rw [ife_f (e1 := EnC m o sp x3 s0 L k (.str [c]) (.str u) (kD t) (.tup (iD s.1)) (.tup (iD s.2))) (by
      unfold EnC
      simp only [mex, mev, mevs, mit, bind_ok, of_some, fix, truthR, truth, cleans, wholes, frz, frzs, lend, back, store, augSem, isOwn, reduceIte, Bool.false_eq_true, Bool.and_true, Bool.true_and, Bool.and_self, Bool.and_false, Bool.false_and, decide_true, decide_false, List.contains_nil, List.elem_nil, Option.map_some, Bool.not_true, Bool.not_false, g0, g1, g2, g3, g4, g5, g6, g7, g8, g9, g10, g11, g12, g13, st0, st1, st2, st3, st4, st5, st6, st7, st8, st9, st10, st11, st12, st13, v_addI, v_subI, v_ltI, v_leI, v_gtI, v_geI, v_eqI, v_neI, v_eqS, v_neS, v_eqB, v_neB, v_lenL, v_lenT, ih_str, ih_int, ih_tup, ih_lst, ih_dic, ih_bl, ih_non, cl_str, cl_int, cl_bl, cl_non, cl_tup, cl_lst, wh_str, wh_int, wh_bl, wh_non, wh_tup, wh_lst, isHole_kD, v_ixK, wholes, decide_eq_true (show ([] : List D).length ≤ bigLine from Nat.zero_le _), if_true, v_neT0, decide_eq_true hd])]
    exact seq_nil
  · by_cases hin : t ∈ L.map (·.1)
    · rw [grow_t (show sdead t ∨ t ∈ L.map (·.1) from Or.inr hin)]
      rw [ife_f (e1 := EnC m o sp x3 s0 L k (.str [c]) (.str u) (kD t) (.tup (iD s.1)) (.tup (iD s.2))) (by
        unfold EnC
        simp only [mex, mev, mevs, mit, bind_ok, of_some, fix, truthR, truth, cleans, wholes, frz, frzs, lend, back, store, augSem, isOwn, reduceIte, Bool.false_eq_true, Bool.and_true, Bool.true_and, Bool.and_self, Bool.and_false, Bool.false_and, decide_true, decide_false, List.contains_nil, List.elem_nil, Option.map_some, Bool.not_true, Bool.not_false, g0, g1, g2, g3, g4, g5, g6, g7, g8, g9, g10, g11, g12, g13, st0, st1, st2, st3, st4, st5, st6, st7, st8, st9, st10, st11, st12, st13, v_addI, v_subI, v_ltI, v_leI, v_gtI, v_geI, v_eqI, v_neI, v_eqS, v_neS, v_eqB, v_neB, v_lenL, v_lenT, ih_str, ih_int, ih_tup, ih_lst, ih_dic, ih_bl, ih_non, cl_str, cl_int, cl_bl, cl_non, cl_tup, cl_lst, wh_str, wh_int, wh_bl, wh_non, wh_tup, wh_lst, isHole_kD, v_ixK, wholes, decide_eq_true (show ([] : List D).length ≤ bigLine from Nat.zero_le _), if_true, v_neT0, decide_eq_false hd, v_notinK, decide_eq_true hin])]
      exact seq_nil
    · rw [grow_f (show ¬ (sdead t ∨ t ∈ L.map (·.1)) from fun h => h.elim hd hin)]
      rw [ife_t (e1 := EnC m o sp x3 s0 L k (.str [c]) (.str u) (kD t) (.tup (iD s.1)) (.tup (iD s.2))) (by
        unfold EnC
        simp only [mex, mev, mevs, mit, bind_ok, of_some, fix, truthR, truth, cleans, wholes, frz, frzs, lend, back, store, augSem, isOwn, reduceIte, Bool.false_eq_true, Bool.and_true, Bool.true_and, Bool.and_self, Bool.and_false, Bool.false_and, decide_true, decide_false, List.contains_nil, List.elem_nil, Option.map_some, Bool.not_true, Bool.not_false, g0, g1, g2, g3, g4, g5, g6, g7, g8, g9, g10, g11, g12, g13, st0, st1, st2, st3, st4, st5, st6, st7, st8, st9, st10, st11, st12, st13, v_addI, v_subI, v_ltI, v_leI, v_gtI, v_geI, v_eqI, v_neI, v_eqS, v_neS, v_eqB, v_neB, v_lenL, v_lenT, ih_str, ih_int, ih_tup, ih_lst, ih_dic, ih_bl, ih_non, cl_str, cl_int, cl_bl, cl_non, cl_tup, cl_lst, wh_str, wh_int, wh_bl, wh_non, wh_tup, wh_lst, isHole_kD, v_ixK, wholes, decide_eq_true (show ([] : List D).length ≤ bigLine from Nat.zero_le _), if_true, v_neT0, decide_eq_false hd, v_notinK, decide_eq_false hin])]
      unfold b3_2 s3_11 s3_12 EnC
      have hb : (L.map (·.1)).length < bigLine := by rw [List.length_map]; unfold bigLine; omega
      rw [seq_nx (e1 := [.str m, .str o, .str [sp], x3, kD s0, .dic true ((L.map (·.1) ++ [t]).map kD) (L.map (fun _ => D.bl true) ++ [.bl true]), .lst true (L.map lD), .int k, .str [c], .str u, kD t, .tup (iD s.1), .tup (iD s.2)]) (by
        simp only [mex, mev, mevs, mit, bind_ok, of_some, fix, truthR, truth, cleans, wholes, frz, frzs, lend, back, store, augSem, isOwn, reduceIte, Bool.false_eq_true, Bool.and_true, Bool.true_and, Bool.and_self, Bool.and_false, Bool.false_and, decide_true, decide_false, List.contains_nil, List.elem_nil, Option.map_some, Bool.not_true, Bool.not_false, g0, g1, g2, g3, g4, g5, g6, g7, g8, g9, g10, g11, g12, g13, st0, st1, st2, st3, st4, st5, st6, st7, st8, st9, st10, st11, st12, st13, v_addI, v_subI, v_ltI, v_leI, v_gtI, v_geI, v_eqI, v_neI, v_eqS, v_neS, v_eqB, v_neB, v_lenL, v_lenT, ih_str, ih_int, ih_tup, ih_lst, ih_dic, ih_bl, ih_non, cl_str, cl_int, cl_bl, cl_non, cl_tup, cl_lst, wh_str, wh_int, wh_bl, wh_non, wh_tup, wh_lst, isHole_kD, clean_kD, set_newK (d := .bl true) hin (show (L.map fun _ => D.bl true).length = (L.map (·.1)).length by simp) hb])]
      refine (seq_nx ?_).trans seq_nil
      have ha := app_line (L := L) (p := (t, u ++ [c])) (by unfold bigLine; omega)
      have hadd : opV .add [.str u, .str [c]] = some (.str (u ++ [c])) := v_addS (by simp only [List.length_singleton]; unfold bigLine; omega)
      have hw : wholes [kD t, .str (u ++ [c])] = true := by simp only [wholes, whole, whole_kD, Bool.and_self]
      simp only [mex, mev, mevs, mit, bind_ok, of_some, fix, truthR, truth, cleans, wholes, frz, frzs, lend, back, store, augSem, isOwn, reduceIte, Bool.false_eq_true, Bool.and_true, Bool.true_and, Bool.and_self, Bool.and_false, Bool.false_and, decide_true, decide_false, List.contains_nil, List.elem_nil, Option.map_some, Bool.not_true, Bool.not_false, g0, g1, g2, g3, g4, g5, g6, g7, g8, g9, g10, g11, g12, g13, st0, st1, st2, st3, st4, st5, st6, st7, st8, st9, st10, st11, st12, st13, v_addI, v_subI, v_ltI, v_leI, v_gtI, v_geI, v_eqI, v_neI, v_eqS, v_neS, v_eqB, v_neB, v_lenL, v_lenT, ih_str, ih_int, ih_tup, ih_lst, ih_dic, ih_bl, ih_non, cl_str, cl_int, cl_bl, cl_non, cl_tup, cl_lst, wh_str, wh_int, wh_bl, wh_non, wh_tup, wh_lst, isHole_kD, clean_kD, whole_kD, hadd, hw, two, if_true]
      rw [show D.tup [kD t, .str (u ++ [c])] = lD (t, u ++ [c]) from rfl, ha]
      simp only [mex, mev, mevs, mit, bind_ok, of_some, fix, isHole, truthR, truth, clean, cleans, whole, wholes, frz, frzs, lend, back, store, augSem, isOwn, reduceIte, Bool.false_eq_true, Bool.and_true, Bool.true_and, Bool.and_self, Bool.and_false, Bool.false_and, decide_true, decide_false, List.contains_nil, List.elem_nil, Option.map_some, Bool.not_true, Bool.not_false, g0, g1, g2, g3, g4, g5, g6, g7, g8, g9, g10, g11, g12, g13, st0, st1, st2, st3, st4, st5, st6, st7, st8, st9, st10, st11, st12, st13, v_addI, v_subI, v_ltI, v_leI, v_gtI, v_geI, v_eqI, v_neI, v_eqS, v_neS, v_eqB, v_neB, v_lenL, v_lenT, List.map_append, List.map_cons, List.map_nil]
end Pg
end Mp
set_option maxHeartbeats 0
namespace Mp
namespace Pg
open PySem
/-- the rows that may come: with a star ahead its two first places stand in each -/
def rws (m : List Nat) : List (List Nat) := if m.head? = some 42 then (pw (List.range' 2 (m.length - 1))).map (fun r => 0 :: 1 :: r) else pw (List.range (m.length + 1))
def RN (m : List Nat) : Nat := if m.head? = some 42 then 2 ^ (m.length - 1) else 2 ^ (m.length + 1)
theorem rws_len (m : List Nat) : (rws m).length = RN m := by
  unfold rws RN
  split
  · rw [List.length_map, pw_len, List.length_range']
  · rw [pw_len, List.length_range]
open Classical in
theorem row_rws {m : List Nat} {P : Nat → Prop} (h : m.head? = some 42 → P 0 ∧ P 1) : rowOf m P ∈ rws m := by
  unfold rws
  split
  · rename_i hh
    obtain ⟨h0, h1⟩ := h hh
    obtain ⟨r, rfl⟩ : ∃ r, m = 42 :: r := by
      cases m with
      | nil => cases hh
      | cons x r =>
        injection hh with e
        exact ⟨r, by rw [e]⟩
    refine List.mem_map.mpr ⟨(List.range' 2 ((42 :: r).length - 1)).filter fun x => decide (P x), pw_filter _ _, ?_⟩
    unfold rowOf
    have e : List.range ((42 :: r).length + 1) = 0 :: 1 :: List.range' 2 ((42 :: r).length - 1) := by
      rw [List.range_eq_range', List.length_cons, Nat.add_sub_cancel, show r.length + 1 + 1 = (r.length + 1) + 1 from rfl, List.range'_succ, List.range'_succ]
    rw [e, List.filter_cons_of_pos (by rw [decide_eq_true_iff]; exact h0), List.filter_cons_of_pos (by rw [decide_eq_true_iff]; exact h1)]
  · exact row_pw _ _
theorem st0 {m : List Nat} (h : m.head? = some 42) : Mp.St m 0 := by
  cases m with
  | nil => cases h
  | cons x r =>
    injection h with e
    subst e
    exact rfl
theorem row0_in (m : List Nat) : row0 m ∈ rws m ∧ (m.head? = some 42 → 0 ∈ row0 m) := by
  have z : Cls m (· ∈ [0]) 0 := ⟨0, List.mem_singleton.mpr rfl, .refl 0⟩
  exact ⟨row_rws fun h => ⟨z, ⟨0, List.mem_singleton.mpr rfl, .step (st0 h) (.refl 1)⟩⟩, fun h => row_mem.mpr ⟨Nat.succ_pos _, z⟩⟩
theorem rstep_in {m r : List Nat} {c : Nat} (hr : m.head? = some 42 → 0 ∈ r) : rstep m r c ∈ rws m ∧ (m.head? = some 42 → 0 ∈ rstep m r c) := by
  have z : m.head? = some 42 → StepS m c (· ∈ r) 0 := fun h => ⟨0, hr h, .inl ⟨st0 h, rfl⟩⟩
  exact ⟨row_rws fun h => ⟨⟨0, z h, .refl 0⟩, ⟨0, z h, .step (st0 h) (.refl 1)⟩⟩, fun h => row_mem.mpr ⟨Nat.succ_pos _, ⟨0, z h, .refl 0⟩⟩⟩
/-- all pairs of rows -/
def UU (m o : List Nat) : List SS := (rws m).flatMap fun a => (rws o).map fun b => (a, b)
theorem UU_len (m o : List Nat) : (UU m o).length = RN m * RN o := by
  unfold UU
  rw [List.length_flatMap]
  simp only [List.length_map, rws_len]
  rw [List.map_const', List.sum_replicate_nat, rws_len]
theorem UU_mem {m o : List Nat} {s : SS} (h1 : s.1 ∈ rws m) (h2 : s.2 ∈ rws o) : s ∈ UU m o := by
  unfold UU
  rw [List.mem_flatMap]
  exact ⟨s.1, h1, List.mem_map_of_mem h2⟩
/-- few states -/
structure Fw (m o : List Nat) : Prop where
  mb : m.length ≤ 900
  ob : o.length ≤ 900
  few : RN m * RN o ≤ 5000000
theorem RN_le {m : List Nat} (h : m.length ≤ 9) : RN m ≤ 1024 := by
  unfold RN
  split
  · exact Nat.le_trans (Nat.pow_le_pow_right (by omega) (show m.length - 1 ≤ 10 by omega)) (by decide)
  · exact Nat.le_trans (Nat.pow_le_pow_right (by omega) (show m.length + 1 ≤ 10 by omega)) (by decide)
theorem Fw.of {m o : List Nat} (hm : m.length ≤ 9) (ho : o.length ≤ 9) : Fw m o := ⟨by omega, by omega, Nat.le_trans (Nat.mul_le_mul (RN_le hm) (RN_le ho)) (by decide)⟩
structure Gs (m o : List Nat) (s : SS) : Prop where
  pl1 : Pl m s.1
  pl2 : Pl o s.2
  mem : s ∈ UU m o
  z1 : m.head? = some 42 → 0 ∈ s.1
  z2 : o.head? = some 42 → 0 ∈ s.2
theorem Gs.step {m o : List Nat} (hw : Fw m o) {s : SS} (h : Gs m o s) (c : Nat) : Gs m o (sst m o s c) :=
  ⟨(stepped1 0 hw.mb c h.pl1).2.1, (stepped1 0 hw.ob c h.pl2).2.1, UU_mem (rstep_in h.z1).1 (rstep_in h.z2).1, (rstep_in h.z1).2, (rstep_in h.z2).2⟩
theorem Gs.zero {m o : List Nat} (hw : Fw m o) : Gs m o (ss0 m o) := ⟨(spread0 0 hw.mb).2.1, (spread0 0 hw.ob).2.1, UU_mem (row0_in m).1 (row0_in o).1, (row0_in m).2, (row0_in o).2⟩
structure Gd (m o : List Nat) (L : List (SS × List Nat)) : Prop where
  nd : (L.map (·.1)).Nodup
  st : ∀ p ∈ L, Gs m o p.1 ∧ p.2.length < L.length
theorem Gd.len {m o : List Nat} {L : List (SS × List Nat)} (h : Gd m o L) : L.length ≤ RN m * RN o := by
  have := nodup_sub (L.map (·.1)) (UU m o) h.nd fun s hs => by
    obtain ⟨p, hp, rfl⟩ := List.mem_map.mp hs
    exact (h.st p hp).1.mem
  rw [List.length_map, UU_len] at this
  exact this
theorem Gd.push {m o : List Nat} (hw : Fw m o) {L : List (SS × List Nat)} (h : Gd m o L) {s : SS} {u : List Nat} {c : Nat} (hs : Gs m o s) (hu : u.length < L.length) :
    Gd m o (grow (sdead (sst m o s c) ∨ sst m o s c ∈ L.map (·.1)) L (sst m o s c, u ++ [c])) := by
  by_cases hn : sdead (sst m o s c) ∨ sst m o s c ∈ L.map (·.1)
  · rw [grow_t hn]
    exact h
  · rw [grow_f hn]
    rw [not_or] at hn
    refine ⟨?_, fun p hp => ?_⟩
    · rw [List.map_append, List.nodup_append]
      refine ⟨h.nd, by simp, fun a ha b hb e => ?_⟩
      have hb : b = sst m o s c := by simpa using hb
      exact hn.2 (by rw [← hb, ← e]; exact ha)
    · rw [List.length_append, List.length_singleton]
      rcases List.mem_append.mp hp with hp | hp
      · have := h.st p hp
        exact ⟨this.1, by omega⟩
      · rw [List.mem_singleton] at hp
        subst hp
        exact ⟨hs.step hw c, by simp; omega⟩
theorem grow_len {P : Prop} {α : Type} {L : List α} {x : α} : L.length ≤ (grow P L x).length := by
  by_cases h : P
  · rw [grow_t h]; exact Nat.le_refl _
  · rw [grow_f h]; simp
theorem for_in (n : Nat) {m o : List Nat} (hw : Fw m o) {sp : Nat} {x3 : D} {s0 s : SS} {k : Nat} {u : List Nat} (hs : Gs m o s) : ∀ (cs : List Nat) (L : List (SS × List Nat)) (x8 x10 : D), Gd m o L → u.length < L.length →
    ∃ x8' x10', Gd m o (exps (sst m o) sdead s u cs L) ∧ L.length ≤ (exps (sst m o) sdead s u cs L).length ∧
      forL (fun x e2 => (R.of (store [] (.nm 8) x e2) e2).bind fun e3 _ => mexs (mcall 100000000 T (n + 2)) 100000000 [] b3_4 e3) (chars cs) (EnC m o sp x3 s0 L k x8 (.str u) x10 (.tup (iD s.1)) (.tup (iD s.2))) =
        .ok .nx (EnC m o sp x3 s0 (exps (sst m o) sdead s u cs L) k x8' (.str u) x10' (.tup (iD s.1)) (.tup (iD s.2)))
  | [], L, x8, x10, g, _ => ⟨x8, x10, by rw [exps]; exact g, by rw [exps]; exact Nat.le_refl _, by rw [exps]; rfl⟩
  | c :: cs, L, x8, x10, g, hu => by
    have hl := g.len
    have hf := hw.few
    have hm := hw.mb
    have ho := hw.ob
    have b := body_in n (by omega) (by omega) (sp := sp) (x3 := x3) (s0 := s0) (L := L) (k := k) (u := u) (x10 := x10) (c := c) hs.pl1 hs.pl2 (by omega) (by omega)
    have g2 := Gd.push hw g (c := c) hs hu
    have gl := grow_len (P := sdead (sst m o s c) ∨ sst m o s c ∈ L.map (·.1)) (L := L) (x := (sst m o s c, u ++ [c]))
    obtain ⟨x8', x10', q1, q2, q3⟩ := for_in n hw (sp := sp) (x3 := x3) (s0 := s0) (k := k) (u := u) hs cs _ (.str [c]) (kD (sst m o s c)) g2 (by omega)
    refine ⟨x8', x10', by rw [exps]; exact q1, by rw [exps]; omega, ?_⟩
    rw [exps]
    show forL _ (.str [c] :: chars cs) _ = _
    rw [forL]
    have st : store [] (.nm 8) (.str [c]) (EnC m o sp x3 s0 L k x8 (.str u) x10 (.tup (iD s.1)) (.tup (iD s.2))) = some (EnC m o sp x3 s0 L k (.str [c]) (.str u) x10 (.tup (iD s.1)) (.tup (iD s.2))) := rfl
    rw [st, of_some, bind_ok, b, bind_ok]
    exact q3
theorem wholes_chars : ∀ w : List Nat, wholes (chars w) = true
  | [] => rfl
  | c :: w => by show (whole (.str [c]) && wholes (chars w)) = true; rw [wholes_chars w]; rfl
theorem cleans_chars : ∀ w : List Nat, cleans (chars w) = true
  | [] => rfl
  | c :: w => by show (clean (.str [c]) && cleans (chars w)) = true; rw [cleans_chars w]; rfl
theorem frzs_chars : ∀ w : List Nat, frzs (chars w) = chars w
  | [] => rfl
  | c :: w => by show frz (.str [c]) :: frzs (chars w) = _; rw [frzs_chars w]; rfl
/-- a turn of the search, not at its end -/
theorem turn_c (n : Nat) {m o : List Nat} (hw : Fw m o) {sp : Nat} {o3 : Bool} {sg : List Nat} {s0 s : SS} {L : List (SS × List Nat)} {k : Nat} {u : List Nat} {x8 x9 x10 x11 x12 : D} (g : Gd m o L) (hk : L[k]? = some (s, u)) :
    (sgoal m o s → ∃ e', mexs (mcall 100000000 T (n + 3)) 100000000 [] b3_5 (EnC m o sp (.lst o3 (chars sg)) s0 L k x8 x9 x10 x11 x12) = .ok (.ret (.str u)) e') ∧
    (¬ sgoal m o s → ∃ x8' x10', Gd m o (exps (sst m o) sdead s u sg L) ∧ L.length ≤ (exps (sst m o) sdead s u sg L).length ∧
      mexs (mcall 100000000 T (n + 3)) 100000000 [] b3_5 (EnC m o sp (.lst o3 (chars sg)) s0 L k x8 x9 x10 x11 x12) = .ok .nx (EnC m o sp (.lst false (chars sg)) s0 (exps (sst m o) sdead s u sg L) (k + 1) x8' (.str u) x10' (.tup (iD s.1)) (.tup (iD s.2)))) := by
  have hm := hw.mb
  have ho := hw.ob
  obtain ⟨hs, hul⟩ := g.st _ (List.mem_of_getElem? hk)
  have d1 := done_ok (n + 2) (m := m) (by omega) (ps := s.1)
  have d2 := done_ok (n + 2) (m := o) (by omega) (ps := s.2)
  have e6 : mex (mcall 100000000 T (n + 3)) 100000000 [] s3_6 (EnC m o sp (.lst o3 (chars sg)) s0 L k x8 x9 x10 x11 x12) = .ok .nx (EnC m o sp (.lst o3 (chars sg)) s0 L k x8 (.str u) x10 (.tup (iD s.1)) (.tup (iD s.2))) := by
    unfold s3_6 EnC
    simp only [mex, mev, mevs, bind_ok, of_some, fix, g6, g7, ih_lst, ih_int, Bool.false_eq_true, if_false, v_ixLine hk, st_tn]
  have e7 : mex (mcall 100000000 T (n + 3)) 100000000 [] s3_7 (EnC m o sp (.lst o3 (chars sg)) s0 L k x8 (.str u) x10 (.tup (iD s.1)) (.tup (iD s.2))) = .ok .nx (EnC m o sp (.lst o3 (chars sg)) s0 L (k + 1) x8 (.str u) x10 (.tup (iD s.1)) (.tup (iD s.2))) := by
    unfold s3_7 EnC
    simp only [mex, mev, mevs, mit, bind_ok, of_some, fix, truthR, truth, cleans, wholes, frz, frzs, lend, back, store, augSem, isOwn, reduceIte, Bool.false_eq_true, Bool.and_true, Bool.true_and, Bool.and_self, Bool.and_false, Bool.false_and, decide_true, decide_false, List.contains_nil, List.elem_nil, Option.map_some, Bool.not_true, Bool.not_false, g0, g1, g2, g3, g4, g5, g6, g7, g8, g9, g10, g11, g12, g13, st0, st1, st2, st3, st4, st5, st6, st7, st8, st9, st10, st11, st12, st13, v_addI, v_subI, v_ltI, v_leI, v_gtI, v_geI, v_eqI, v_neI, v_eqS, v_neS, v_eqB, v_neB, v_lenL, v_lenT, ih_str, ih_int, ih_tup, ih_lst, ih_dic, ih_bl, ih_non, cl_str, cl_int, cl_bl, cl_non, cl_tup, cl_lst, wh_str, wh_int, wh_bl, wh_non, wh_tup, wh_lst, Int.natCast_add, Int.cast_ofNat_Int]
  unfold b3_5
  rw [seq_nx e6, seq_nx e7]
  have hcond : truthR (mev (mcall 100000000 T (n + 3)) (.and (.call 2 (.cons (.cp 1) (.cons (.cp 12) .nil))) (.not (.call 2 (.cons (.cp 0) (.cons (.cp 11) .nil))))) (EnC m o sp (.lst o3 (chars sg)) s0 L (k + 1) x8 (.str u) x10 (.tup (iD s.1)) (.tup (iD s.2)))) =
      .ok (decide (o.length ∈ s.2) && !decide (m.length ∈ s.1)) (EnC m o sp (.lst o3 (chars sg)) s0 L (k + 1) x8 (.str u) x10 (.tup (iD s.1)) (.tup (iD s.2))) := by
    unfold EnC
    by_cases h2 : o.length ∈ s.2
    · simp only [mex, mev, mevs, mit, bind_ok, of_some, fix, truthR, truth, cleans, wholes, frz, frzs, lend, back, store, augSem, isOwn, reduceIte, Bool.false_eq_true, Bool.and_true, Bool.true_and, Bool.and_self, Bool.and_false, Bool.false_and, decide_true, decide_false, List.contains_nil, List.elem_nil, Option.map_some, Bool.not_true, Bool.not_false, g0, g1, g2, g3, g4, g5, g6, g7, g8, g9, g10, g11, g12, g13, st0, st1, st2, st3, st4, st5, st6, st7, st8, st9, st10, st11, st12, st13, v_addI, v_subI, v_ltI, v_leI, v_gtI, v_geI, v_eqI, v_neI, v_eqS, v_neS, v_eqB, v_neB, v_lenL, v_lenT, ih_str, ih_int, ih_tup, ih_lst, ih_dic, ih_bl, ih_non, cl_str, cl_int, cl_bl, cl_non, cl_tup, cl_lst, wh_str, wh_int, wh_bl, wh_non, wh_tup, wh_lst, cleans_iD, d1, d2, if_true, decide_eq_true h2]
    · simp only [mex, mev, mevs, mit, bind_ok, of_some, fix, truthR, truth, cleans, wholes, frz, frzs, lend, back, store, augSem, isOwn, reduceIte, Bool.false_eq_true, Bool.and_true, Bool.true_and, Bool.and_self, Bool.and_false, Bool.false_and, decide_true, decide_false, List.contains_nil, List.elem_nil, Option.map_some, Bool.not_true, Bool.not_false, g0, g1, g2, g3, g4, g5, g6, g7, g8, g9, g10, g11, g12, g13, st0, st1, st2, st3, st4, st5, st6, st7, st8, st9, st10, st11, st12, st13, v_addI, v_subI, v_ltI, v_leI, v_gtI, v_geI, v_eqI, v_neI, v_eqS, v_neS, v_eqB, v_neB, v_lenL, v_lenT, ih_str, ih_int, ih_tup, ih_lst, ih_dic, ih_bl, ih_non, cl_str, cl_int, cl_bl, cl_non, cl_tup, cl_lst, wh_str, wh_int, wh_bl, wh_non, wh_tup, wh_lst, cleans_iD, d1, d2, if_true, decide_eq_false h2]
  unfold s3_9
  constructor
  · intro hg
    have hc : (decide (o.length ∈ s.2) && !decide (m.length ∈ s.1)) = true := by rw [decide_eq_true hg.1, decide_eq_false hg.2]; rfl
    rw [hc] at hcond
    have er : mexs (mcall 100000000 T (n + 3)) 100000000 [] b3_0 (EnC m o sp (.lst o3 (chars sg)) s0 L (k + 1) x8 (.str u) x10 (.tup (iD s.1)) (.tup (iD s.2))) = .ok (.ret (.str u)) (EnC m o sp (.lst o3 (chars sg)) s0 L (k + 1) x8 .hole x10 (.tup (iD s.1)) (.tup (iD s.2))) := by
      unfold b3_0 s3_8 EnC
      exact seq_ret (by simp only [mex, mev, mevs, mit, bind_ok, of_some, fix, truthR, truth, cleans, wholes, frz, frzs, lend, back, store, augSem, isOwn, reduceIte, Bool.false_eq_true, Bool.and_true, Bool.true_and, Bool.and_self, Bool.and_false, Bool.false_and, decide_true, decide_false, List.contains_nil, List.elem_nil, Option.map_some, Bool.not_true, Bool.not_false, g0, g1, g2, g3, g4, g5, g6, g7, g8, g9, g10, g11, g12, g13, st0, st1, st2, st3, st4, st5, st6, st7, st8, st9, st10, st11, st12, st13, v_addI, v_subI, v_ltI, v_leI, v_gtI, v_geI, v_eqI, v_neI, v_eqS, v_neS, v_eqB, v_neB, v_lenL, v_lenT, ih_str, ih_int, ih_tup, ih_lst, ih_dic, ih_bl, ih_non, cl_str, cl_int, cl_bl, cl_non, cl_tup, cl_lst, wh_str, wh_int, wh_bl, wh_non, wh_tup, wh_lst, if_true])
    exact ⟨_, seq_ret ((ife_t hcond).trans er)⟩
  · intro hg
    have hc : (decide (o.length ∈ s.2) && !decide (m.length ∈ s.1)) = false := by
      by_cases h2 : o.length ∈ s.2
      · have h1 : m.length ∈ s.1 := Classical.byContradiction fun h => hg ⟨h2, h⟩
        rw [decide_eq_true h1, decide_eq_true h2]; rfl
      · rw [decide_eq_false h2]; rfl
    rw [hc] at hcond
    unfold b3_1
    rw [seq_nx ((ife_f hcond).trans seq_nil)]
    obtain ⟨x8', x10', q1, q2, q3⟩ := for_in (n + 1) hw (sp := sp) (x3 := .lst false (chars sg)) (s0 := s0) (k := k + 1) (u := u) hs sg L x8 x10 g hul
    refine ⟨x8', x10', q1, q2, ?_⟩
    refine (seq_nx ?_).trans seq_nil
    unfold s3_14
    rw [mex]
    have hit : mit (mcall 100000000 T (n + 3)) (.seq (.sh 3)) (EnC m o sp (.lst o3 (chars sg)) s0 L (k + 1) x8 (.str u) x10 (.tup (iD s.1)) (.tup (iD s.2))) = .ok (chars sg) (EnC m o sp (.lst false (chars sg)) s0 L (k + 1) x8 (.str u) x10 (.tup (iD s.1)) (.tup (iD s.2))) := by
      unfold EnC
      simp only [mit, mev, bind_ok, g3, st3, wh_lst, wholes_chars, if_true, frz, frzs_chars]
    rw [hit, bind_ok]
    exact q3
theorem while_c (n : Nat) {m o : List Nat} (hw : Fw m o) {sp : Nat} {sg : List Nat} (hsg : sg.Pairwise (· < ·)) : ∀ (N : Nat) (o3 : Bool) (L : List (SS × List Nat)) (k : Nat) (x8 x9 x10 x11 x12 : D), Ov (sst m o) (sgoal m o) sg (ss0 m o) L k → Gd m o L → k ≤ L.length → 5000001 ≤ N + k →
    ∃ r e', whileL (fun e => truthR (mev (mcall 100000000 T (n + 3)) (.op .lt (.cons (.bw 7) (.cons (.op .len (.cons (.bw 6) .nil)) .nil))) e)) (fun e => mexs (mcall 100000000 T (n + 3)) 100000000 [] b3_5 e) N (EnC m o sp (.lst o3 (chars sg)) (ss0 m o) L k x8 x9 x10 x11 x12) = .ok r e' ∧
      ((∃ u, r = .ret (.str u) ∧ IsMin (sst m o) (sgoal m o) sg (ss0 m o) u ∧ u.length ≤ 5000000) ∨ (r = .nx ∧ ∀ w, ¬ GoalW (sst m o) (sgoal m o) sg (ss0 m o) w))
  | 0, o3, L, k, _, _, _, _, _, _, g, hk, hN => by
    have := g.len
    have := hw.few
    omega
  | N + 1, o3, L, k, x8, x9, x10, x11, x12, ov, g, hk, hN => by
    have hc : truthR (mev (mcall 100000000 T (n + 3)) (.op .lt (.cons (.bw 7) (.cons (.op .len (.cons (.bw 6) .nil)) .nil))) (EnC m o sp (.lst o3 (chars sg)) (ss0 m o) L k x8 x9 x10 x11 x12)) = .ok (decide (k < L.length)) (EnC m o sp (.lst o3 (chars sg)) (ss0 m o) L k x8 x9 x10 x11 x12) := by
      unfold EnC
      simp only [mex, mev, mevs, mit, bind_ok, of_some, fix, truthR, truth, cleans, wholes, frz, frzs, lend, back, store, augSem, isOwn, reduceIte, Bool.false_eq_true, Bool.and_true, Bool.true_and, Bool.and_self, Bool.and_false, Bool.false_and, decide_true, decide_false, List.contains_nil, List.elem_nil, Option.map_some, Bool.not_true, Bool.not_false, g0, g1, g2, g3, g4, g5, g6, g7, g8, g9, g10, g11, g12, g13, st0, st1, st2, st3, st4, st5, st6, st7, st8, st9, st10, st11, st12, st13, v_addI, v_subI, v_ltI, v_leI, v_gtI, v_geI, v_eqI, v_neI, v_eqS, v_neS, v_eqB, v_neB, v_lenL, v_lenT, ih_str, ih_int, ih_tup, ih_lst, ih_dic, ih_bl, ih_non, cl_str, cl_int, cl_bl, cl_non, cl_tup, cl_lst, wh_str, wh_int, wh_bl, wh_non, wh_tup, wh_lst, List.length_map, dec_lt]
    rw [whileL, hc, bind_ok]
    by_cases hlt : k < L.length
    · rw [decide_eq_true hlt]
      obtain ⟨⟨s, u⟩, hku⟩ : ∃ p, L[k]? = some p := ⟨L[k], List.getElem?_eq_getElem hlt⟩
      obtain ⟨t1, t2⟩ := turn_c n hw (sp := sp) (o3 := o3) (sg := sg) (s0 := ss0 m o) (x8 := x8) (x9 := x9) (x10 := x10) (x11 := x11) (x12 := x12) g hku
      by_cases hg : sgoal m o s
      · obtain ⟨e', h⟩ := t1 hg
        refine ⟨.ret (.str u), e', ?_, .inl ⟨u, rfl, ov_goal ov hku hg, by have h1 := (g.st _ (List.mem_of_getElem? hku)).2; have h1 : u.length < L.length := h1; have := g.len; have := hw.few; omega⟩⟩
        simp only [h, bind_ok]
      · obtain ⟨x8', x10', q1, q2, q3⟩ := t2 hg
        obtain ⟨r, e', w1, w2⟩ := while_c n hw (sp := sp) hsg N false _ (k + 1) x8' (.str u) x10' (.tup (iD s.1)) (.tup (iD s.2)) (ov_step dead_no hsg ov hku hg) q1 (by omega) (by omega)
        refine ⟨r, e', ?_, w2⟩
        simp only [q3, bind_ok]
        exact w1
    · rw [decide_eq_false hlt]
      exact ⟨.nx, _, rfl, .inr ⟨rfl, ov_end ov (by omega)⟩⟩
end Pg
end Mp
set_option maxHeartbeats 0
namespace Mp
namespace Pg
open PySem
theorem comp_cs {own : List Nat} {f : Nat → Bool} {E : Env} {cf : Env → R Bool} {ef : Env → R D} {tg : Tg} (h : ∀ k : Nat, turnR own tg cf ef (.str [k]) E = .ok (if f k = true then some (.str [k]) else none) E) :
    ∀ m : List Nat, compL (turnR own tg cf ef) (chars m) E = .ok (chars (m.filter f)) E
  | [] => rfl
  | k :: r => by
    show compL _ (.str [k] :: chars r) E = _
    rw [compL, h k, bind_ok, comp_cs h r, bind_ok]
    cases hf : f k with
    | true => simp [hf, chars]
    | false => simp [hf, chars]
theorem chars_few {f : Nat → Bool} : (chars (SG.filter f)).length ≤ bigLine := by
  unfold chars
  rw [List.length_map]
  exact Nat.le_trans (List.length_filter_le _ _) (by unfold bigLine; decide)
def q0 (m o : List Nat) (c : Nat) : Bool := !(m ++ o).contains c
def q1 (m o : List Nat) (sp c : Nat) : Bool := (m ++ o).contains c || decide ([c] = [sp])
def sgs (m o : List Nat) (sp : Nat) : List Nat := SG.filter (q1 m o sp)
theorem v_notinC {c : Nat} {y : List Nat} : opV .notin [.str [c], .str y] = some (.bl (!y.contains c)) := rfl
theorem v_isinC {c : Nat} {y : List Nat} : opV .isin [.str [c], .str y] = some (.bl (y.contains c)) := rfl
theorem sgs_sorted (m o : List Nat) (sp : Nat) : (sgs m o sp).Pairwise (· < ·) := by
  unfold sgs
  exact (show SG.Pairwise (· < ·) by decide).filter _
theorem spare_is {m o : List Nat} (h : (m ++ o).length < 37) : ∃ sp, (SG.filter (q0 m o))[0]? = some sp ∧ sp ∈ SG ∧ sp ∉ m ∧ sp ∉ o := by
  cases hf : SG.filter (q0 m o) with
  | nil =>
    exfalso
    have := nodup_sub SG (m ++ o) (by decide) fun x hx => by
      refine Classical.byContradiction fun hn => ?_
      have : x ∈ SG.filter (q0 m o) := List.mem_filter.mpr ⟨hx, by unfold q0; simpa using hn⟩
      rw [hf] at this
      cases this
    have e : SG.length = 37 := rfl
    omega
  | cons sp r =>
    have hm : sp ∈ SG.filter (q0 m o) := by rw [hf]; exact List.mem_cons_self ..
    obtain ⟨h1, h2⟩ := List.mem_filter.mp hm
    unfold q0 at h2
    have h2 : sp ∉ m ∧ sp ∉ o := by simpa using h2
    exact ⟨sp, rfl, h1, h2⟩
theorem lc_sel {call : CallF} {w : List Nat} {f : Nat → Bool} {x : Str} {cond : ME} {E : Env} (hw : wipeE E [8] = E) (hp : putE E E [8] = E) (ht : ∀ k : Nat, turnR [8] (.nm 8) (fun e => truthR (mev call cond e)) (fun e => mev call (.cp 8) e) (.str [k]) E = .ok (if f k = true then some (.str [k]) else none) E)
    (hl : (chars (w.filter f)).length ≤ bigLine) : mev call (.lc [8] (.nm 8) (.seq (.gc x (.str w))) cond (.cp 8)) E = .ok (.lst true (chars (w.filter f))) E := by
  rw [mev, mit, mev, bind_ok]
  show ((compL (turnR [8] (.nm 8) (fun e => truthR (mev call cond e)) (fun e => mev call (.cp 8) e)) (chars w) (wipeE E [8])).bind fun ds e6 => if ds.length ≤ bigLine then R.ok (D.lst true ds) (putE E e6 [8]) else .no) = _
  rw [hw, comp_cs ht w, bind_ok, if_pos hl, hp]
theorem spare_st {call : CallF} {m o : List Nat} {sp : Nat} (hm : m.length ≤ 900) (ho : o.length ≤ 900) (h : (SG.filter (q0 m o))[0]? = some sp) {x2 x3 x4 x5 x6 x7 x9 x10 x11 x12 : D} :
    mex call 100000000 [] s3_0 [.str m, .str o, x2, x3, x4, x5, x6, x7, .hole, x9, x10, x11, x12] = .ok .nx [.str m, .str o, .str [sp], x3, x4, x5, x6, x7, .hole, x9, x10, x11, x12] := by
  unfold s3_0
  have hadd : opV .add [.str m, .str o] = some (.str (m ++ o)) := v_addS (by unfold bigLine; omega)
  have ht : ∀ k : Nat, turnR [8] (.nm 8) (fun e => truthR (mev call (.op .notin (.cons (.bw 8) (.cons (.op .add (.cons (.bw 0) (.cons (.bw 1) .nil))) .nil))) e)) (fun e => mev call (.cp 8) e) (.str [k]) [.str m, .str o, x2, x3, x4, x5, x6, x7, .hole, x9, x10, x11, x12] = .ok (if q0 m o k = true then some (.str [k]) else none) [.str m, .str o, x2, x3, x4, x5, x6, x7, .hole, x9, x10, x11, x12] := fun k => by
    unfold turnR q0
    cases hk : (m ++ o).contains k with
    | true => simp only [mex, mev, mevs, mit, bind_ok, of_some, fix, truthR, truth, cleans, wholes, frz, frzs, lend, back, store, augSem, isOwn, reduceIte, Bool.false_eq_true, Bool.and_true, Bool.true_and, Bool.and_self, Bool.and_false, Bool.false_and, decide_true, decide_false, List.contains_nil, List.elem_nil, Option.map_some, Bool.not_true, Bool.not_false, g0, g1, g2, g3, g4, g5, g6, g7, g8, g9, g10, g11, g12, g13, st0, st1, st2, st3, st4, st5, st6, st7, st8, st9, st10, st11, st12, st13, v_addI, v_subI, v_ltI, v_leI, v_gtI, v_geI, v_eqI, v_neI, v_eqS, v_neS, v_eqB, v_neB, v_lenL, v_lenT, ih_str, ih_int, ih_tup, ih_lst, ih_dic, ih_bl, ih_non, cl_str, cl_int, cl_bl, cl_non, cl_tup, cl_lst, wh_str, wh_int, wh_bl, wh_non, wh_tup, wh_lst, hadd, v_notinC, hk, Bool.not_true, if_true, wipeE]
    | false => simp only [mex, mev, mevs, mit, bind_ok, of_some, fix, truthR, truth, cleans, wholes, frz, frzs, lend, back, store, augSem, isOwn, reduceIte, Bool.false_eq_true, Bool.and_true, Bool.true_and, Bool.and_self, Bool.and_false, Bool.false_and, decide_true, decide_false, List.contains_nil, List.elem_nil, Option.map_some, Bool.not_true, Bool.not_false, g0, g1, g2, g3, g4, g5, g6, g7, g8, g9, g10, g11, g12, g13, st0, st1, st2, st3, st4, st5, st6, st7, st8, st9, st10, st11, st12, st13, v_addI, v_subI, v_ltI, v_leI, v_gtI, v_geI, v_eqI, v_neI, v_eqS, v_neS, v_eqB, v_neB, v_lenL, v_lenT, ih_str, ih_int, ih_tup, ih_lst, ih_dic, ih_bl, ih_non, cl_str, cl_int, cl_bl, cl_non, cl_tup, cl_lst, wh_str, wh_int, wh_bl, wh_non, wh_tup, wh_lst, hadd, v_notinC, hk, Bool.not_false, if_true, wipeE]
  have hix : opV .ix [.lst true (chars (SG.filter (q0 m o))), .int 0] = some (.str [sp]) := v_ixL (atL_nat (n := 0) (by unfold chars; rw [List.getElem?_map, h]; rfl)) rfl
  rw [mex, mev, mevs, lc_sel (w := SG) (f := q0 m o) rfl rfl ht chars_few, bind_ok]
  simp only [bind_ok, mevs, mev, fix, hix, of_some, store, List.contains_nil, Bool.false_eq_true, if_false, st2]
theorem signs_st {call : CallF} {m o : List Nat} {sp : Nat} (hm : m.length ≤ 900) (ho : o.length ≤ 900) {x3 x4 x5 x6 x7 x9 x10 x11 x12 : D} :
    mex call 100000000 [] s3_1 [.str m, .str o, .str [sp], x3, x4, x5, x6, x7, .hole, x9, x10, x11, x12] = .ok .nx [.str m, .str o, .str [sp], .lst true (chars (sgs m o sp)), x4, x5, x6, x7, .hole, x9, x10, x11, x12] := by
  unfold s3_1
  have hadd : opV .add [.str m, .str o] = some (.str (m ++ o)) := v_addS (by unfold bigLine; omega)
  have ht : ∀ k : Nat, turnR [8] (.nm 8) (fun e => truthR (mev call (.or (.op .isin (.cons (.bw 8) (.cons (.op .add (.cons (.bw 0) (.cons (.bw 1) .nil))) .nil))) (.op .eq (.cons (.bw 8) (.cons (.bw 2) .nil)))) e)) (fun e => mev call (.cp 8) e) (.str [k]) [.str m, .str o, .str [sp], x3, x4, x5, x6, x7, .hole, x9, x10, x11, x12] = .ok (if q1 m o sp k = true then some (.str [k]) else none) [.str m, .str o, .str [sp], x3, x4, x5, x6, x7, .hole, x9, x10, x11, x12] := fun k => by
    unfold turnR q1
    cases hk : (m ++ o).contains k with
    | true => simp only [mex, mev, mevs, mit, bind_ok, of_some, fix, truthR, truth, cleans, wholes, frz, frzs, lend, back, store, augSem, isOwn, reduceIte, Bool.false_eq_true, Bool.and_true, Bool.true_and, Bool.and_self, Bool.and_false, Bool.false_and, decide_true, decide_false, List.contains_nil, List.elem_nil, Option.map_some, Bool.not_true, Bool.not_false, g0, g1, g2, g3, g4, g5, g6, g7, g8, g9, g10, g11, g12, g13, st0, st1, st2, st3, st4, st5, st6, st7, st8, st9, st10, st11, st12, st13, v_addI, v_subI, v_ltI, v_leI, v_gtI, v_geI, v_eqI, v_neI, v_eqS, v_neS, v_eqB, v_neB, v_lenL, v_lenT, ih_str, ih_int, ih_tup, ih_lst, ih_dic, ih_bl, ih_non, cl_str, cl_int, cl_bl, cl_non, cl_tup, cl_lst, wh_str, wh_int, wh_bl, wh_non, wh_tup, wh_lst, hadd, v_isinC, hk, Bool.true_or, if_true, wipeE]
    | false =>
      by_cases hs : [k] = [sp]
      · simp only [mex, mev, mevs, mit, bind_ok, of_some, fix, truthR, truth, cleans, wholes, frz, frzs, lend, back, store, augSem, isOwn, reduceIte, Bool.false_eq_true, Bool.and_true, Bool.true_and, Bool.and_self, Bool.and_false, Bool.false_and, decide_true, decide_false, List.contains_nil, List.elem_nil, Option.map_some, Bool.not_true, Bool.not_false, g0, g1, g2, g3, g4, g5, g6, g7, g8, g9, g10, g11, g12, g13, st0, st1, st2, st3, st4, st5, st6, st7, st8, st9, st10, st11, st12, st13, v_addI, v_subI, v_ltI, v_leI, v_gtI, v_geI, v_eqI, v_neI, v_eqS, v_neS, v_eqB, v_neB, v_lenL, v_lenT, ih_str, ih_int, ih_tup, ih_lst, ih_dic, ih_bl, ih_non, cl_str, cl_int, cl_bl, cl_non, cl_tup, cl_lst, wh_str, wh_int, wh_bl, wh_non, wh_tup, wh_lst, hadd, v_isinC, hk, Bool.false_or, decide_eq_true hs, if_true, wipeE]
      · simp only [mex, mev, mevs, mit, bind_ok, of_some, fix, truthR, truth, cleans, wholes, frz, frzs, lend, back, store, augSem, isOwn, reduceIte, Bool.false_eq_true, Bool.and_true, Bool.true_and, Bool.and_self, Bool.and_false, Bool.false_and, decide_true, decide_false, List.contains_nil, List.elem_nil, Option.map_some, Bool.not_true, Bool.not_false, g0, g1, g2, g3, g4, g5, g6, g7, g8, g9, g10, g11, g12, g13, st0, st1, st2, st3, st4, st5, st6, st7, st8, st9, st10, st11, st12, st13, v_addI, v_subI, v_ltI, v_leI, v_gtI, v_geI, v_eqI, v_neI, v_eqS, v_neS, v_eqB, v_neB, v_lenL, v_lenT, ih_str, ih_int, ih_tup, ih_lst, ih_dic, ih_bl, ih_non, cl_str, cl_int, cl_bl, cl_non, cl_tup, cl_lst, wh_str, wh_int, wh_bl, wh_non, wh_tup, wh_lst, hadd, v_isinC, hk, Bool.false_or, decide_eq_false hs, if_true, wipeE]
  rw [mex, lc_sel (w := SG) (f := q1 m o sp) rfl rfl ht chars_few, bind_ok]
  rfl
theorem covers_ok (n : Nat) {m o : List Nat} (hw : Fw m o) (hl : (m ++ o).length < 37) : ∃ sp r, ((sp ∈ SG ∧ sp ∉ m ∧ sp ∉ o) ∧ (SG.filter (q0 m o))[0]? = some sp) ∧ mcall 100000000 T (n + 4) 3 [.str m, .str o] = some (r, [.hole, .hole]) ∧
    ((∃ u, r = .str u ∧ IsMin (sst m o) (sgoal m o) (sgs m o sp) (ss0 m o) u ∧ u.length ≤ 5000000) ∨ (r = .non ∧ ∀ w, ¬ GoalW (sst m o) (sgoal m o) (sgs m o sp) (ss0 m o) w)) := by
  obtain ⟨sp, s1, s2, s3⟩ := spare_is (m := m) (o := o) hl
  have hm := hw.mb
  have ho := hw.ob
  have z1 := (spread0 (n + 2) (m := m) (by omega)).1
  have z2 := (spread0 (n + 2) (m := o) (by omega)).1
  have g0' : Gd m o [(ss0 m o, [])] := ⟨by simp, fun p hp => by
    rw [List.mem_singleton] at hp
    subst hp
    exact ⟨Gs.zero hw, by simp⟩⟩
  obtain ⟨r, e', w1, w2⟩ := while_c n hw (sp := sp) (sgs_sorted m o sp) 100000000 true [(ss0 m o, [])] 0 .hole .hole .hole .hole .hole ov_init g0' (by simp) (by omega)
  have one : ∀ x : D, decide (([x] : List D).length ≤ bigLine) = true := fun x => decide_eq_true (show 1 ≤ bigLine by unfold bigLine; omega)
  have body : mexs (mcall 100000000 T (n + 3)) 100000000 [] b3_6 [.str m, .str o, .hole, .hole, .hole, .hole, .hole, .hole, .hole, .hole, .hole, .hole, .hole] = (R.ok r e').bind fun o' e1 => match o' with
      | .nx => .ok (.ret .non) e1
      | o => .ok o e1 := by
    unfold b3_6
    rw [seq_nx (spare_st (by omega) (by omega) s1), seq_nx (signs_st (by omega) (by omega))]
    rw [seq_nx (e1 := [.str m, .str o, .str [sp], .lst true (chars (sgs m o sp)), kD (ss0 m o), .hole, .hole, .hole, .hole, .hole, .hole, .hole, .hole]) (by
      unfold s3_2
      simp only [mex, mev, mevs, mit, bind_ok, of_some, fix, truthR, truth, cleans, wholes, frz, frzs, lend, back, store, augSem, isOwn, reduceIte, Bool.false_eq_true, Bool.and_true, Bool.true_and, Bool.and_self, Bool.and_false, Bool.false_and, decide_true, decide_false, List.contains_nil, List.elem_nil, Option.map_some, Bool.not_true, Bool.not_false, g0, g1, g2, g3, g4, g5, g6, g7, g8, g9, g10, g11, g12, g13, st0, st1, st2, st3, st4, st5, st6, st7, st8, st9, st10, st11, st12, st13, v_addI, v_subI, v_ltI, v_leI, v_gtI, v_geI, v_eqI, v_neI, v_eqS, v_neS, v_eqB, v_neB, v_lenL, v_lenT, ih_str, ih_int, ih_tup, ih_lst, ih_dic, ih_bl, ih_non, cl_str, cl_int, cl_bl, cl_non, cl_tup, cl_lst, wh_str, wh_int, wh_bl, wh_non, wh_tup, wh_lst, one, z1, z2, wholes_iD, two, if_true]
      rfl)]
    rw [seq_nx (e1 := [.str m, .str o, .str [sp], .lst true (chars (sgs m o sp)), kD (ss0 m o), .dic true [kD (ss0 m o)] [.bl true], .hole, .hole, .hole, .hole, .hole, .hole, .hole]) (by
      unfold s3_3
      simp only [mex, mev, mevs, mit, bind_ok, of_some, fix, truthR, truth, cleans, wholes, frz, frzs, lend, back, store, augSem, isOwn, reduceIte, Bool.false_eq_true, Bool.and_true, Bool.true_and, Bool.and_self, Bool.and_false, Bool.false_and, decide_true, decide_false, List.contains_nil, List.elem_nil, Option.map_some, Bool.not_true, Bool.not_false, g0, g1, g2, g3, g4, g5, g6, g7, g8, g9, g10, g11, g12, g13, st0, st1, st2, st3, st4, st5, st6, st7, st8, st9, st10, st11, st12, st13, v_addI, v_subI, v_ltI, v_leI, v_gtI, v_geI, v_eqI, v_neI, v_eqS, v_neS, v_eqB, v_neB, v_lenL, v_lenT, ih_str, ih_int, ih_tup, ih_lst, ih_dic, ih_bl, ih_non, cl_str, cl_int, cl_bl, cl_non, cl_tup, cl_lst, wh_str, wh_int, wh_bl, wh_non, wh_tup, wh_lst, clean_kD, key_kD, if_true])]
    rw [seq_nx (e1 := [.str m, .str o, .str [sp], .lst true (chars (sgs m o sp)), kD (ss0 m o), .dic true [kD (ss0 m o)] [.bl true], .lst true [lD (ss0 m o, [])], .hole, .hole, .hole, .hole, .hole, .hole]) (by
      unfold s3_4
      simp only [mex, mev, mevs, mit, bind_ok, of_some, fix, truthR, truth, cleans, wholes, frz, frzs, lend, back, store, augSem, isOwn, reduceIte, Bool.false_eq_true, Bool.and_true, Bool.true_and, Bool.and_self, Bool.and_false, Bool.false_and, decide_true, decide_false, List.contains_nil, List.elem_nil, Option.map_some, Bool.not_true, Bool.not_false, g0, g1, g2, g3, g4, g5, g6, g7, g8, g9, g10, g11, g12, g13, st0, st1, st2, st3, st4, st5, st6, st7, st8, st9, st10, st11, st12, st13, v_addI, v_subI, v_ltI, v_leI, v_gtI, v_geI, v_eqI, v_neI, v_eqS, v_neS, v_eqB, v_neB, v_lenL, v_lenT, ih_str, ih_int, ih_tup, ih_lst, ih_dic, ih_bl, ih_non, cl_str, cl_int, cl_bl, cl_non, cl_tup, cl_lst, wh_str, wh_int, wh_bl, wh_non, wh_tup, wh_lst, clean_kD, whole_kD, one, two, if_true]
      rfl)]
    rw [seq_nx (e1 := EnC m o sp (.lst true (chars (sgs m o sp))) (ss0 m o) [(ss0 m o, [])] 0 .hole .hole .hole .hole .hole) (by
      unfold s3_5
      simp only [mex, mev, mevs, mit, bind_ok, of_some, fix, truthR, truth, cleans, wholes, frz, frzs, lend, back, store, augSem, isOwn, reduceIte, Bool.false_eq_true, Bool.and_true, Bool.true_and, Bool.and_self, Bool.and_false, Bool.false_and, decide_true, decide_false, List.contains_nil, List.elem_nil, Option.map_some, Bool.not_true, Bool.not_false, g0, g1, g2, g3, g4, g5, g6, g7, g8, g9, g10, g11, g12, g13, st0, st1, st2, st3, st4, st5, st6, st7, st8, st9, st10, st11, st12, st13, v_addI, v_subI, v_ltI, v_leI, v_gtI, v_geI, v_eqI, v_neI, v_eqS, v_neS, v_eqB, v_neB, v_lenL, v_lenT, ih_str, ih_int, ih_tup, ih_lst, ih_dic, ih_bl, ih_non, cl_str, cl_int, cl_bl, cl_non, cl_tup, cl_lst, wh_str, wh_int, wh_bl, wh_non, wh_tup, wh_lst]
      rfl)]
    rw [mexs]
    unfold s3_15
    rw [mex, w1]
    simp only [bind_ok]
    cases r <;> rfl
  rcases w2 with ⟨u, rfl, hu⟩ | ⟨rfl, hn⟩
  · exact ⟨sp, .str u, ⟨⟨s2, s3⟩, s1⟩, run_ret (m := m3) (e := e') rfl rfl body rfl, .inl ⟨u, rfl, hu⟩⟩
  · exact ⟨sp, .non, ⟨⟨s2, s3⟩, s1⟩, run_ret (m := m3) (e := e') rfl rfl body rfl, .inr ⟨rfl, hn⟩⟩
/-! ### what it means -/
theorem M_map {f : Nat → Nat} {m w : List Nat} (h : ∀ s ∈ m, s = 42 ∨ s = 63 ∨ ∀ c, s = f c ↔ s = c) (k : M m w) : M m (w.map f) := by
  induction k with
  | nil => exact .nil
  | s0 k ih => exact .s0 (ih fun s hs => h s (List.mem_cons_of_mem _ hs))
  | s1 k ih => exact .s1 (ih h)
  | q k ih => exact .q (ih fun s hs => h s (List.mem_cons_of_mem _ hs))
  | @l m w c n k ih =>
    have ih := ih fun s hs => h s (List.mem_cons_of_mem _ hs)
    rcases h c (List.mem_cons_self ..) with e | e | e
    · exact absurd e n
    · subst e
      exact .q ih
    · have e2 : f c = c := ((e c).mpr rfl).symm
      show M (c :: m) (f c :: w.map f)
      rw [e2]
      exact .l n ih
theorem M_unmap {f : Nat → Nat} {v : List Nat} : ∀ {m : List Nat}, (∀ s ∈ m, s = 42 ∨ s = 63 ∨ ∀ c, s = f c ↔ s = c) → M m v → ∀ w, w.map f = v → M m w := by
  intro m h k
  induction k with
  | nil =>
    intro w e
    rw [List.map_eq_nil_iff] at e
    subst e
    exact .nil
  | s0 k ih => exact fun w e => .s0 (ih (fun s hs => h s (List.mem_cons_of_mem _ hs)) w e)
  | s1 k ih =>
    intro w e
    cases w with
    | nil => cases e
    | cons c w =>
      injection e with e1 e2
      exact .s1 (ih h w e2)
  | q k ih =>
    intro w e
    cases w with
    | nil => cases e
    | cons c w =>
      injection e with e1 e2
      exact .q (ih (fun s hs => h s (List.mem_cons_of_mem _ hs)) w e2)
  | @l m w' c n k ih =>
    intro w e
    cases w with
    | nil => cases e
    | cons x w =>
      injection e with e1 e2
      have ih := ih (fun s hs => h s (List.mem_cons_of_mem _ hs)) w e2
      rcases h c (List.mem_cons_self ..) with e | e | e
      · exact absurd e n
      · subst e
        exact .q ih
      · have := (e x).mp e1.symm
        subst this
        exact .l n ih
/-- signs that a mask may have -/
def Mg (m : List Nat) : Prop := ∀ c ∈ m, c = 42 ∨ c = 63 ∨ c ∈ SG
def Cov (m o : List Nat) : Prop := ∀ w, M o w → M m w
theorem none_iff {m o : List Nat} {sp : Nat} (hm : m.length ≤ 900) (ho : o.length ≤ 900) (gm : Mg m) (go : Mg o) (hs : sp ∈ SG ∧ sp ∉ m ∧ sp ∉ o) : (∀ w, ¬ GoalW (sst m o) (sgoal m o) (sgs m o sp) (ss0 m o) w) ↔ Cov m o := by
  constructor
  · intro h w ko
    refine Classical.byContradiction fun km => ?_
    have spm : sp ∈ sgs m o sp := List.mem_filter.mpr ⟨hs.1, by unfold q1; simp⟩
    let f : Nat → Nat := fun c => if c ∈ sgs m o sp then c else sp
    have hf : ∀ {z : List Nat}, (∀ s ∈ z, s ∈ m ∨ s ∈ o) → Mg z → ∀ s ∈ z, s = 42 ∨ s = 63 ∨ ∀ c, s = f c ↔ s = c := fun {z} hz gz s hsz => by
      rcases gz s hsz with e | e | e
      · exact .inl e
      · exact .inr (.inl e)
      · refine .inr (.inr fun c => ?_)
        have hin : s ∈ sgs m o sp := List.mem_filter.mpr ⟨e, by unfold q1; rcases hz s hsz with q | q <;> simp [q]⟩
        have nsp : s ≠ sp := fun q => by
          rcases hz s hsz with r | r
          · exact hs.2.1 (q ▸ r)
          · exact hs.2.2 (q ▸ r)
        show s = (if c ∈ sgs m o sp then c else sp) ↔ s = c
        by_cases hc : c ∈ sgs m o sp
        · rw [if_pos hc]
        · rw [if_neg hc]
          exact ⟨fun q => absurd q nsp, fun q => absurd (q ▸ hin) hc⟩
    have fm := hf (z := m) (fun s h => .inl h) gm
    have fo := hf (z := o) (fun s h => .inr h) go
    refine h (w.map f) ⟨fun c hc => ?_, (goal_iff hm ho _).mpr ⟨M_map fo ko, fun k => km (M_unmap fm k w rfl)⟩⟩
    obtain ⟨x, _, rfl⟩ := List.mem_map.mp hc
    show (if x ∈ sgs m o sp then x else sp) ∈ sgs m o sp
    split
    · assumption
    · exact spm
  · intro h w hw
    obtain ⟨k1, k2⟩ := (goal_iff hm ho w).mp hw.2
    exact k2 (h w k1)
/-- covers, of masks of few signs: told None just where every word of the other one is one of the mask -/
theorem covers_is (n : Nat) {m o : List Nat} (hm : m.length ≤ 9) (ho : o.length ≤ 9) (gm : Mg m) (go : Mg o) : ∃ r, mcall 100000000 T (n + 4) 3 [.str m, .str o] = some (r, [.hole, .hole]) ∧ ((r = .non ∧ Cov m o) ∨ ((∃ u, r = .str u) ∧ ¬ Cov m o)) := by
  obtain ⟨sp, r, hs, e, h⟩ := covers_ok n (Fw.of hm ho) (by rw [List.length_append]; omega)
  refine ⟨r, e, ?_⟩
  have ni := none_iff (sp := sp) (show m.length ≤ 900 by omega) (show o.length ≤ 900 by omega) gm go hs.1
  rcases h with ⟨u, rfl, hu⟩ | ⟨rfl, hn⟩
  · exact .inr ⟨⟨u, rfl⟩, fun hc => ni.mpr hc u hu.1.1⟩
  · exact .inl ⟨rfl, ni.mp hn⟩
end Pg
end Mp
set_option maxHeartbeats 0
namespace Mp
namespace Pg
open PySem
theorem bigN {n : Nat} (h : n ≤ 16000000) : n ≤ bigLine := by unfold bigLine; omega
theorem strN {m : List Nat} {p c : Nat} (hm : m.length ≤ 16000000) (h : m[p]? = some c) : opV .ix [.str m, .int p] = some (.str [c]) := v_ixS (bigN hm) (atL_nat h)
noncomputable def fitB (m w : List Nat) : Bool := @decide (M m w) (Classical.propDecidable _)
theorem fitB_iff {m w : List Nat} : fitB m w = true ↔ M m w := by unfold fitB; exact @decide_eq_true_iff _ (Classical.propDecidable _)
/-! ### the table of the law's own fitting -/
theorem v_addL {o p : Bool} {xs ys : List D} (h1 : cleans xs = true) (h2 : cleans ys = true) (hl : xs.length + ys.length ≤ bigLine) : opV .add [.lst o xs, .lst p ys] = some (.lst true (xs ++ ys)) := by
  show (if (cleans xs && cleans ys && decide (xs.length + ys.length ≤ bigLine)) = true then some (D.lst true (xs ++ ys)) else none) = _
  rw [if_pos (by rw [h1, h2, decide_eq_true hl]; rfl)]
theorem v_mulL {xs : List D} {k : Int} (h1 : cleans xs = true) (h2 : -9223372036854775808 ≤ k) (h3 : k < 9223372036854775808) (h4 : xs.length * k.toNat ≤ bigLine) : opV .mul [.lst true xs, .int k] = some (.lst true (List.replicate k.toNat xs).flatten) := by
  show (if (cleans xs && decide (-(2 ^ 63) ≤ k) && decide (k < 2 ^ 63) && decide (xs.length * k.toNat ≤ bigLine)) = true then some (D.lst true (List.replicate k.toNat xs).flatten) else none) = _
  rw [if_pos]
  simp only [Bool.and_eq_true, decide_eq_true_eq]
  exact ⟨⟨⟨h1, h2⟩, h3⟩, h4⟩
abbrev bD (bs : List Bool) : List D := bs.map D.bl
theorem cleans_bD : ∀ bs : List Bool, cleans (bD bs) = true
  | [] => rfl
  | b :: r => by show (clean (.bl b) && cleans (bD r)) = true; rw [cleans_bD r]; rfl
theorem whole_bD : ∀ bs : List Bool, wholes (bD bs) = true
  | [] => rfl
  | b :: r => by show (whole (.bl b) && wholes (bD r)) = true; rw [whole_bD r]; rfl
theorem frzs_bD : ∀ bs : List Bool, frzs (bD bs) = bD bs
  | [] => rfl
  | b :: r => by show frz (.bl b) :: frzs (bD r) = _; rw [frzs_bD r]; rfl
theorem ix_bD {o : Bool} {bs : List Bool} {k : Nat} {b : Bool} (h : bs[k]? = some b) : opV .ix [.lst o (bD bs), .int (k : Int)] = some (.bl b) :=
  v_ixL (atL_nat (by rw [List.getElem?_map, h]; rfl)) rfl
theorem app_bD {bs : List Bool} {b : Bool} (h : bs.length < 7000000) : appSem (.lst true (bD bs)) (.bl b) = some (.lst true (bD (bs ++ [b]))) := by
  show (if (bD bs).length < bigLine then some (D.lst true (bD bs ++ [.bl b])) else none) = _
  rw [if_pos (by rw [List.length_map]; unfold bigLine; omega)]
  show _ = some (D.lst true ((bs ++ [b]).map D.bl))
  rw [List.map_append]; rfl
/-- the row behind a mask's part p: at k whether the word's first k signs fit it -/
noncomputable def rowM (p w : List Nat) : List Bool := (List.range (w.length + 1)).map fun k => fitB p (w.take k)
theorem rowM_at {p w : List Nat} {k : Nat} (h : k ≤ w.length) : (rowM p w)[k]? = some (fitB p (w.take k)) := by
  unfold rowM
  rw [List.getElem?_map, List.getElem?_range (by omega)]
  rfl
theorem take_succ_at {w : List Nat} {k : Nat} (h : k < w.length) : w.take (k + 1) = w.take k ++ [w[k]] := by
  rw [List.take_succ, List.getElem?_eq_getElem h]; rfl
theorem M.snoc_inv {p u : List Nat} {s c : Nat} (hs : s ≠ 42) (h : M (p ++ [s]) (u ++ [c])) : (s = 63 ∨ s = c) ∧ M p u := by
  obtain ⟨x, y, e, h1, h2⟩ := M.app_inv h
  obtain ⟨c', v, rfl, d, k⟩ := (M.lit_iff hs).mp h2
  rw [M.nil_iff] at k
  subst k
  obtain ⟨rfl, e2⟩ := List.append_inj' e rfl
  cases e2
  exact ⟨d, h1⟩
theorem row_lit0 {p : List Nat} {s : Nat} (hs : s ≠ 42) : fitB (p ++ [s]) [] = false := by
  rw [Bool.eq_false_iff, Ne, fitB_iff, M.app_iff]
  rintro ⟨u, v, e, _, h2⟩
  obtain ⟨c, y, rfl, _⟩ := (M.lit_iff hs).mp h2
  simp at e
theorem row_lit {p w : List Nat} {s k : Nat} (hs : s ≠ 42) (hk : k < w.length) : fitB (p ++ [s]) (w.take (k + 1)) = (fitB p (w.take k) && decide (63 = s ∨ w[k] = s)) := by
  rw [Bool.eq_iff_iff, Bool.and_eq_true, fitB_iff, fitB_iff, decide_eq_true_iff, take_succ_at hk]
  constructor
  · intro h
    obtain ⟨d, h⟩ := M.snoc_inv hs h
    exact ⟨h, d.imp Eq.symm Eq.symm⟩
  · rintro ⟨h, d⟩
    exact M.append h ((M.lit_iff hs).mpr ⟨_, _, rfl, d.imp Eq.symm Eq.symm, .nil⟩)
theorem row_star0 {p : List Nat} : fitB (p ++ [42]) [] = fitB p [] := by
  rw [Bool.eq_iff_iff, fitB_iff, fitB_iff]
  constructor
  · intro h
    obtain ⟨u, v, e, h1, h2⟩ := M.app_inv h
    have : u = [] ∧ v = [] := by simpa using e.symm
    rw [this.1] at h1
    exact h1
  · intro h
    have := M.append h (M.s0 M.nil)
    simpa using this
theorem row_star {p w : List Nat} {k : Nat} (hk : k < w.length) : fitB (p ++ [42]) (w.take (k + 1)) = (fitB p (w.take (k + 1)) || fitB (p ++ [42]) (w.take k)) := by
  rw [Bool.eq_iff_iff, Bool.or_eq_true, fitB_iff, fitB_iff, fitB_iff]
  constructor
  · intro h
    obtain ⟨u, v, e, h1, h2⟩ := M.app_inv h
    by_cases hv : v = []
    · subst hv
      rw [List.append_nil] at e
      exact .inl (e ▸ h1)
    · right
      rw [take_succ_at hk] at e
      have : v = v.dropLast ++ [v.getLast hv] := (List.dropLast_concat_getLast hv).symm
      rw [this, ← List.append_assoc] at e
      obtain ⟨e1, _⟩ := List.append_inj' e rfl
      rw [e1]
      refine M.append h1 ?_
      have := M.star_any [] v.dropLast [] .nil
      simpa using this
  · rintro (h | h)
    · have := M.append h (M.s0 M.nil)
      simpa using this
    · rw [take_succ_at hk]
      obtain ⟨u, v, e, h1, h2⟩ := M.app_inv h
      rw [e, List.append_assoc]
      refine M.append h1 ?_
      have := M.star_any [] (v ++ [w[k]]) [] .nil
      simpa using this
abbrev En8 (m w : List Nat) (r x3 x4 x5 : D) : Env := [.str m, .str w, r, x3, x4, x5]
theorem later_step {p w : List Nat} {s i : Nat} {b : Bool} (hi : i < w.length) (hb : b = fitB (p ++ [s]) (w.take (i + 1))) : (rowM (p ++ [s]) w).take (i + 1) ++ [b] = (rowM (p ++ [s]) w).take (i + 2) := by
  rw [List.take_succ (i := i + 1), rowM_at (by omega), hb]; rfl
theorem rowM_len {p w : List Nat} : (rowM p w).length = w.length + 1 := by unfold rowM; simp
theorem inner_ok {call : CallF} {m w p : List Nat} {s : Nat} {o : Bool} (hw : w.length ≤ 6000000) : ∀ (n i : Nat) (pv : D), i + n = w.length →
    ∃ pv', forL (fun x e2 => (R.of (store [] (.nm 5) x e2) e2).bind fun e3 _ => mexs call 100000000 [] b7_2 e3) (iD (List.range' i n)) (En8 m w (.lst o (bD (rowM p w))) (.str [s]) (.lst true (bD ((rowM (p ++ [s]) w).take (i + 1)))) pv) =
      .ok .nx (En8 m w (.lst o (bD (rowM p w))) (.str [s]) (.lst true (bD (rowM (p ++ [s]) w))) pv')
  | 0, i, pv, h => ⟨pv, by
    have : (rowM (p ++ [s]) w).take (i + 1) = rowM (p ++ [s]) w := List.take_of_length_le (by rw [rowM_len]; omega)
    rw [this]; rfl⟩
  | n + 1, i, pv, h => by
    have hi : i < w.length := by omega
    obtain ⟨pv', ih⟩ := inner_ok (call := call) (m := m) (p := p) (s := s) (o := o) hw n (i + 1) (.int i) (by omega)
    refine ⟨pv', ?_⟩
    show forL _ (.int i :: iD (List.range' (i + 1) n)) _ = _
    rw [forL]
    have st : store [] (.nm 5) (.int i) (En8 m w (.lst o (bD (rowM p w))) (.str [s]) (.lst true (bD ((rowM (p ++ [s]) w).take (i + 1)))) pv) = some (En8 m w (.lst o (bD (rowM p w))) (.str [s]) (.lst true (bD ((rowM (p ++ [s]) w).take (i + 1)))) (.int i)) := rfl
    have lt : ((rowM (p ++ [s]) w).take (i + 1)).length < 7000000 := by rw [List.length_take, rowM_len]; omega
    have l2 : ∀ x y : D, decide (([x, y] : List D).length ≤ bigLine) = true := fun x y => decide_eq_true (show 2 ≤ bigLine by unfold bigLine; omega)
    have body : mexs call 100000000 [] b7_2 (En8 m w (.lst o (bD (rowM p w))) (.str [s]) (.lst true (bD ((rowM (p ++ [s]) w).take (i + 1)))) (.int i)) = .ok .nx (En8 m w (.lst o (bD (rowM p w))) (.str [s]) (.lst true (bD ((rowM (p ++ [s]) w).take (i + 2)))) (.int i)) := by
      unfold b7_2 s7_4
      refine (seq_nx ?_).trans seq_nil
      by_cases hs : s = 42
      · subst hs
        rw [ife_t (e1 := En8 m w (.lst o (bD (rowM p w))) (.str [42]) (.lst true (bD ((rowM (p ++ [42]) w).take (i + 1)))) (.int i)) (by simp only [mex, mev, mevs, mit, bind_ok, of_some, fix, isHole, truthR, truth, clean, cleans, whole, wholes, frz, frzs, lend, back, store, augSem, isOwn, reduceIte, Bool.false_eq_true, Bool.and_true, Bool.true_and, Bool.and_self, Bool.and_false, Bool.false_and, decide_true, decide_false, List.contains_nil, List.elem_nil, Option.map_some, Bool.not_true, Bool.not_false, g0, g1, g2, g3, g4, g5, g6, g7, g8, g9, g10, g11, g12, g13, st0, st1, st2, st3, st4, st5, st6, st7, st8, st9, st10, st11, st12, st13, v_addI, v_subI, v_ltI, v_leI, v_gtI, v_geI, v_eqI, v_neI, v_eqS, v_neS, v_eqB, v_neB, v_lenL, v_lenT])]
        unfold b7_0 s7_2
        refine (seq_nx ?_).trans seq_nil
        have i1 : opV .ix [.lst o (bD (rowM p w)), .int ((i : Int) + 1)] = some (.bl (fitB p (w.take (i + 1)))) := by
          have := ix_bD (o := o) (rowM_at (p := p) (w := w) (k := i + 1) hi)
          rw [show ((i + 1 : Nat) : Int) = (i : Int) + 1 by omega] at this
          exact this
        have i2 : opV .ix [.lst true (bD ((rowM (p ++ [42]) w).take (i + 1))), .int i] = some (.bl (fitB (p ++ [42]) (w.take i))) :=
          ix_bD (by rw [List.getElem?_take_of_lt (by omega), rowM_at (by omega)])
        have e := row_star (p := p) hi
        have ls := later_step (p := p) (s := 42) (b := fitB (p ++ [42]) (w.take (i + 1))) hi rfl
        rw [← ls]
        cases c1 : fitB p (w.take (i + 1)) with
        | true =>
          rw [c1, Bool.true_or] at e
          rw [c1] at i1
          simp only [mex, mev, mevs, mit, bind_ok, of_some, fix, isHole, truthR, truth, clean, cleans, whole, wholes, frz, frzs, lend, back, store, augSem, isOwn, reduceIte, Bool.false_eq_true, Bool.and_true, Bool.true_and, Bool.and_self, Bool.and_false, Bool.false_and, decide_true, decide_false, List.contains_nil, List.elem_nil, Option.map_some, Bool.not_true, Bool.not_false, g0, g1, g2, g3, g4, g5, g6, g7, g8, g9, g10, g11, g12, g13, st0, st1, st2, st3, st4, st5, st6, st7, st8, st9, st10, st11, st12, st13, v_addI, v_subI, v_ltI, v_leI, v_gtI, v_geI, v_eqI, v_neI, v_eqS, v_neS, v_eqB, v_neB, v_lenL, v_lenT, i1, e, app_bD lt]
        | false =>
          rw [c1, Bool.false_or] at e
          rw [c1] at i1
          rw [e]
          simp only [mex, mev, mevs, mit, bind_ok, of_some, fix, isHole, truthR, truth, clean, cleans, whole, wholes, frz, frzs, lend, back, store, augSem, isOwn, reduceIte, Bool.false_eq_true, Bool.and_true, Bool.true_and, Bool.and_self, Bool.and_false, Bool.false_and, decide_true, decide_false, List.contains_nil, List.elem_nil, Option.map_some, Bool.not_true, Bool.not_false, g0, g1, g2, g3, g4, g5, g6, g7, g8, g9, g10, g11, g12, g13, st0, st1, st2, st3, st4, st5, st6, st7, st8, st9, st10, st11, st12, st13, v_addI, v_subI, v_ltI, v_leI, v_gtI, v_geI, v_eqI, v_neI, v_eqS, v_neS, v_eqB, v_neB, v_lenL, v_lenT, i1, i2, app_bD lt]
      · rw [ife_f (e1 := En8 m w (.lst o (bD (rowM p w))) (.str [s]) (.lst true (bD ((rowM (p ++ [s]) w).take (i + 1)))) (.int i)) (by simp only [mex, mev, mevs, mit, bind_ok, of_some, fix, isHole, truthR, truth, clean, cleans, whole, wholes, frz, frzs, lend, back, store, augSem, isOwn, reduceIte, Bool.false_eq_true, Bool.and_true, Bool.true_and, Bool.and_self, Bool.and_false, Bool.false_and, decide_true, decide_false, List.contains_nil, List.elem_nil, Option.map_some, Bool.not_true, Bool.not_false, g0, g1, g2, g3, g4, g5, g6, g7, g8, g9, g10, g11, g12, g13, st0, st1, st2, st3, st4, st5, st6, st7, st8, st9, st10, st11, st12, st13, v_addI, v_subI, v_ltI, v_leI, v_gtI, v_geI, v_eqI, v_neI, v_eqS, v_neS, v_eqB, v_neB, v_lenL, v_lenT]; simp [hs])]
        unfold b7_1 s7_3
        refine (seq_nx ?_).trans seq_nil
        have i1 : opV .ix [.lst o (bD (rowM p w)), .int i] = some (.bl (fitB p (w.take i))) := ix_bD (rowM_at (p := p) (w := w) (k := i) (by omega))
        have i2 : opV .ix [.str w, .int i] = some (.str [w[i]]) := strN (by omega) (List.getElem?_eq_getElem hi)
        have e := row_lit (p := p) (s := s) hs hi
        have ls := later_step (p := p) (s := s) (b := fitB (p ++ [s]) (w.take (i + 1))) hi rfl
        rw [← ls]
        cases c1 : fitB p (w.take i) with
        | true =>
          rw [c1, Bool.true_and] at e
          rw [c1] at i1
          rw [e]
          simp only [mex, mev, mevs, mit, bind_ok, of_some, fix, isHole, truthR, truth, clean, cleans, whole, wholes, frz, frzs, lend, back, store, augSem, isOwn, reduceIte, Bool.false_eq_true, Bool.and_true, Bool.true_and, Bool.and_self, Bool.and_false, Bool.false_and, decide_true, decide_false, List.contains_nil, List.elem_nil, Option.map_some, Bool.not_true, Bool.not_false, g0, g1, g2, g3, g4, g5, g6, g7, g8, g9, g10, g11, g12, g13, st0, st1, st2, st3, st4, st5, st6, st7, st8, st9, st10, st11, st12, st13, v_addI, v_subI, v_ltI, v_leI, v_gtI, v_geI, v_eqI, v_neI, v_eqS, v_neS, v_eqB, v_neB, v_lenL, v_lenT, i1, i2, l2, if_true, v_in2, app_bD lt]
        | false =>
          rw [c1, Bool.false_and] at e
          rw [c1] at i1
          simp only [mex, mev, mevs, mit, bind_ok, of_some, fix, isHole, truthR, truth, clean, cleans, whole, wholes, frz, frzs, lend, back, store, augSem, isOwn, reduceIte, Bool.false_eq_true, Bool.and_true, Bool.true_and, Bool.and_self, Bool.and_false, Bool.false_and, decide_true, decide_false, List.contains_nil, List.elem_nil, Option.map_some, Bool.not_true, Bool.not_false, g0, g1, g2, g3, g4, g5, g6, g7, g8, g9, g10, g11, g12, g13, st0, st1, st2, st3, st4, st5, st6, st7, st8, st9, st10, st11, st12, st13, v_addI, v_subI, v_ltI, v_leI, v_gtI, v_geI, v_eqI, v_neI, v_eqS, v_neS, v_eqB, v_neB, v_lenL, v_lenT, i1, e, app_bD lt]
    simp only [st, of_some, bind_ok, body]
    exact ih
theorem outer_ok {call : CallF} {m0 w : List Nat} (hw : w.length ≤ 6000000) : ∀ (m p : List Nat) (o : Bool) (x3 x4 x5 : D),
    ∃ o' y3 y4 y5, forL (fun x e2 => (R.of (store [] (.nm 3) x e2) e2).bind fun e3 _ => mexs call 100000000 [] b7_3 e3) (chars m) (En8 m0 w (.lst o (bD (rowM p w))) x3 x4 x5) = .ok .nx (En8 m0 w (.lst o' (bD (rowM (p ++ m) w))) y3 y4 y5)
  | [], p, o, x3, x4, x5 => ⟨o, x3, x4, x5, by rw [List.append_nil]; rfl⟩
  | s :: m, p, o, x3, x4, x5 => by
    obtain ⟨pv, h1⟩ := inner_ok (call := call) (m := m0) (p := p) (s := s) (o := o) hw w.length 0 x5 (by omega)
    obtain ⟨o', y3, y4, y5, h2⟩ := outer_ok (call := call) (m0 := m0) hw m (p ++ [s]) false (.str [s]) (.lst false (bD (rowM (p ++ [s]) w))) pv
    refine ⟨o', y3, y4, y5, ?_⟩
    rw [show p ++ s :: m = p ++ [s] ++ m by simp]
    show forL _ (.str [s] :: chars m) _ = _
    rw [forL]
    have st : store [] (.nm 3) (.str [s]) (En8 m0 w (.lst o (bD (rowM p w))) x3 x4 x5) = some (En8 m0 w (.lst o (bD (rowM p w))) (.str [s]) x4 x5) := rfl
    have l1 : ∀ x : D, decide (([x] : List D).length ≤ bigLine) = true := fun x => decide_eq_true (show 1 ≤ bigLine by unfold bigLine; omega)
    have z0 : (rowM (p ++ [s]) w).take (0 + 1) = [fitB (p ++ [s]) []] := by
      rw [List.take_succ, rowM_at (Nat.zero_le _), List.take_zero, List.take_zero]; rfl
    have i0 : opV .ix [.lst o (bD (rowM p w)), .int 0] = some (.bl (fitB p [])) := by
      have := ix_bD (o := o) (rowM_at (p := p) (w := w) (k := 0) (Nat.zero_le _))
      rw [List.take_zero] at this
      exact this
    have s1 : mex call 100000000 [] s7_1 (En8 m0 w (.lst o (bD (rowM p w))) (.str [s]) x4 x5) = .ok .nx (En8 m0 w (.lst o (bD (rowM p w))) (.str [s]) (.lst true (bD ((rowM (p ++ [s]) w).take (0 + 1)))) x5) := by
      unfold s7_1
      rw [z0]
      by_cases hs : s = 42
      · subst hs
        rw [row_star0]
        simp only [mex, mev, mevs, mit, bind_ok, of_some, fix, isHole, truthR, truth, clean, cleans, whole, wholes, frz, frzs, lend, back, store, augSem, isOwn, reduceIte, Bool.false_eq_true, Bool.and_true, Bool.true_and, Bool.and_self, Bool.and_false, Bool.false_and, decide_true, decide_false, List.contains_nil, List.elem_nil, Option.map_some, Bool.not_true, Bool.not_false, g0, g1, g2, g3, g4, g5, g6, g7, g8, g9, g10, g11, g12, g13, st0, st1, st2, st3, st4, st5, st6, st7, st8, st9, st10, st11, st12, st13, v_addI, v_subI, v_ltI, v_leI, v_gtI, v_geI, v_eqI, v_neI, v_eqS, v_neS, v_eqB, v_neB, v_lenL, v_lenT, i0, l1, if_true, Bool.false_eq_true, if_false]
        rfl
      · rw [row_lit0 hs]
        have d : decide (([s] : List Nat) = [42]) = false := decide_eq_false (by simp [hs])
        simp only [mex, mev, mevs, mit, bind_ok, of_some, fix, isHole, truthR, truth, clean, cleans, whole, wholes, frz, frzs, lend, back, store, augSem, isOwn, reduceIte, Bool.false_eq_true, Bool.and_true, Bool.true_and, Bool.and_self, Bool.and_false, Bool.false_and, decide_true, decide_false, List.contains_nil, List.elem_nil, Option.map_some, Bool.not_true, Bool.not_false, g0, g1, g2, g3, g4, g5, g6, g7, g8, g9, g10, g11, g12, g13, st0, st1, st2, st3, st4, st5, st6, st7, st8, st9, st10, st11, st12, st13, v_addI, v_subI, v_ltI, v_leI, v_gtI, v_geI, v_eqI, v_neI, v_eqS, v_neS, v_eqB, v_neB, v_lenL, v_lenT, d, l1, if_true, Bool.false_eq_true, if_false]
        rfl
    have hit : mit call (.rng1 (.op .len (.cons (.bw 1) .nil))) (En8 m0 w (.lst o (bD (rowM p w))) (.str [s]) (.lst true (bD ((rowM (p ++ [s]) w).take (0 + 1)))) x5) = .ok (iD (List.range' 0 w.length)) (En8 m0 w (.lst o (bD (rowM p w))) (.str [s]) (.lst true (bD ((rowM (p ++ [s]) w).take (0 + 1)))) x5) := by
      have e1 : mev call (.op .len (.cons (.bw 1) .nil)) (En8 m0 w (.lst o (bD (rowM p w))) (.str [s]) (.lst true (bD ((rowM (p ++ [s]) w).take (0 + 1)))) x5) = .ok (.int (w.length : Int)) (En8 m0 w (.lst o (bD (rowM p w))) (.str [s]) (.lst true (bD ((rowM (p ++ [s]) w).take (0 + 1)))) x5) := by
        simp only [mex, mev, mevs, mit, bind_ok, of_some, fix, isHole, truthR, truth, clean, cleans, whole, wholes, frz, frzs, lend, back, store, augSem, isOwn, reduceIte, Bool.false_eq_true, Bool.and_true, Bool.true_and, Bool.and_self, Bool.and_false, Bool.false_and, decide_true, decide_false, List.contains_nil, List.elem_nil, Option.map_some, Bool.not_true, Bool.not_false, g0, g1, g2, g3, g4, g5, g6, g7, g8, g9, g10, g11, g12, g13, st0, st1, st2, st3, st4, st5, st6, st7, st8, st9, st10, st11, st12, st13, v_addI, v_subI, v_ltI, v_leI, v_gtI, v_geI, v_eqI, v_neI, v_eqS, v_neS, v_eqB, v_neB, v_lenL, v_lenT, v_lenS (x := w) (bigN (by omega))]
      have sm : smallI (w.length : Int) = true := by
        unfold smallI
        rw [Bool.and_eq_true, decide_eq_true_iff, decide_eq_true_iff]
        constructor <;> omega
      rw [mit, e1, bind_ok]
      show (if smallI (w.length : Int) = true then _ else _) = _
      rw [if_pos sm, Int.toNat_natCast, ← List.range_eq_range']
    have body : mexs call 100000000 [] b7_3 (En8 m0 w (.lst o (bD (rowM p w))) (.str [s]) x4 x5) = .ok .nx (En8 m0 w (.lst false (bD (rowM (p ++ [s]) w))) (.str [s]) (.lst false (bD (rowM (p ++ [s]) w))) pv) := by
      unfold b7_3
      rw [seq_nx s1]
      rw [seq_nx (e1 := En8 m0 w (.lst o (bD (rowM p w))) (.str [s]) (.lst true (bD (rowM (p ++ [s]) w))) pv) (by
        unfold s7_5
        rw [mex, hit, bind_ok]
        exact h1)]
      refine (seq_nx ?_).trans seq_nil
      unfold s7_6
      simp only [mex, mev, mevs, mit, bind_ok, of_some, fix, isHole, truthR, truth, clean, cleans, whole, wholes, frz, frzs, lend, back, store, augSem, isOwn, reduceIte, Bool.false_eq_true, Bool.and_true, Bool.true_and, Bool.and_self, Bool.and_false, Bool.false_and, decide_true, decide_false, List.contains_nil, List.elem_nil, Option.map_some, Bool.not_true, Bool.not_false, g0, g1, g2, g3, g4, g5, g6, g7, g8, g9, g10, g11, g12, g13, st0, st1, st2, st3, st4, st5, st6, st7, st8, st9, st10, st11, st12, st13, v_addI, v_subI, v_ltI, v_leI, v_gtI, v_geI, v_eqI, v_neI, v_eqS, v_neS, v_eqB, v_neB, v_lenL, v_lenT, whole_bD, frzs_bD]
      try rfl
    simp only [st, of_some, bind_ok, body]
    exact h2
theorem row_nil (w : List Nat) : rowM [] w = true :: List.replicate w.length false := by
  unfold rowM
  rw [List.range_succ_eq_map, List.map_cons, List.map_map]
  congr 1
  · exact fitB_iff.mpr .nil
  · apply List.ext_getElem?
    intro i
    by_cases h : i < w.length
    · rw [List.getElem?_map, List.getElem?_range h, List.getElem?_replicate, if_pos h]
      show some (fitB [] (w.take (i + 1))) = some false
      congr 1
      rw [Bool.eq_false_iff, Ne, fitB_iff, M.nil_iff]
      intro e
      have := congrArg List.length e
      rw [List.length_take, List.length_nil] at this
      omega
    · rw [List.getElem?_eq_none (by rw [List.length_map, List.length_range]; omega), List.getElem?_eq_none (by rw [List.length_replicate]; omega)]
theorem mu8 {n : Nat} (h : n ≤ 6000000) : opV .mul [.lst true [.bl false], .int (n : Int)] = some (.lst true (bD (List.replicate n false))) := by
  have hb : ([D.bl false] : List D).length * (n : Int).toNat ≤ bigLine := by
    rw [Int.toNat_natCast, List.length_singleton, Nat.one_mul]
    exact bigN (by omega)
  have := v_mulL (xs := [.bl false]) (k := (n : Int)) rfl (by omega) (by omega) hb
  rw [Int.toNat_natCast, List.flatten_replicate_singleton] at this
  rw [this]
  show _ = some (D.lst true ((List.replicate n false).map D.bl))
  rw [List.map_replicate]
theorem ad8 {w : List Nat} (h : w.length ≤ 6000000) : opV .add [.lst true [.bl true], .lst true (bD (List.replicate w.length false))] = some (.lst true (bD (rowM [] w))) := by
  rw [row_nil]
  refine v_addL (xs := [.bl true]) rfl (cleans_bD _) ?_
  rw [List.length_map, List.length_replicate, List.length_singleton]
  exact bigN (by omega)
theorem st80 {call : CallF} {m w : List Nat} (hw : w.length ≤ 6000000) : mex call 100000000 [] s7_0 (En8 m w .hole .hole .hole .hole) = .ok .nx (En8 m w (.lst true (bD (rowM [] w))) .hole .hole .hole) := by
  unfold s7_0
  have l1 : ∀ x : D, (wholes [x] && decide (([x] : List D).length ≤ bigLine)) = whole x := fun x => by
    have hb : ([x] : List D).length ≤ bigLine := by rw [List.length_singleton]; exact bigN (by omega)
    rw [decide_eq_true hb]
    show (whole x && true && true) = whole x
    rw [Bool.and_true, Bool.and_true]
  have d1 : ∀ b : Bool, mev call (.dsp false (.cons (.c (.bl b)) .nil)) (En8 m w .hole .hole .hole .hole) = .ok (.lst true [.bl b]) (En8 m w .hole .hole .hole .hole) := fun b => by
    rw [mev, mevs, mev, bind_ok, mevs, bind_ok, bind_ok, l1]
    rfl
  have ln := v_lenS (x := w) (bigN (by omega))
  have d2 : mev call (.op .len (.cons (.bw 1) .nil)) (En8 m w .hole .hole .hole .hole) = .ok (.int (w.length : Int)) (En8 m w .hole .hole .hole .hole) := by
    simp only [mex, mev, mevs, mit, bind_ok, of_some, fix, isHole, truthR, truth, clean, cleans, whole, wholes, frz, frzs, lend, back, store, augSem, isOwn, reduceIte, Bool.false_eq_true, Bool.and_true, Bool.true_and, Bool.and_self, Bool.and_false, Bool.false_and, decide_true, decide_false, List.contains_nil, List.elem_nil, Option.map_some, Bool.not_true, Bool.not_false, g0, g1, g2, g3, g4, g5, g6, g7, g8, g9, g10, g11, g12, g13, st0, st1, st2, st3, st4, st5, st6, st7, st8, st9, st10, st11, st12, st13, v_addI, v_subI, v_ltI, v_leI, v_gtI, v_geI, v_eqI, v_neI, v_eqS, v_neS, v_eqB, v_neB, v_lenL, v_lenT, ln]
  have d3 : mev call (.op .mul (.cons (.dsp false (.cons (.c (.bl false)) .nil)) (.cons (.op .len (.cons (.bw 1) .nil)) .nil))) (En8 m w .hole .hole .hole .hole) = .ok (.lst true (bD (List.replicate w.length false))) (En8 m w .hole .hole .hole .hole) := by
    rw [mev, mevs, d1, bind_ok, mevs, d2, bind_ok, mevs, bind_ok, bind_ok, bind_ok]
    show R.of (opV .mul [.lst true [.bl false], .int (w.length : Int)]) _ = _
    rw [mu8 hw]; rfl
  have d4 : mev call (.op .add (.cons (.dsp false (.cons (.c (.bl true)) .nil)) (.cons (.op .mul (.cons (.dsp false (.cons (.c (.bl false)) .nil)) (.cons (.op .len (.cons (.bw 1) .nil)) .nil))) .nil))) (En8 m w .hole .hole .hole .hole) = .ok (.lst true (bD (rowM [] w))) (En8 m w .hole .hole .hole .hole) := by
    rw [mev, mevs, d1, bind_ok, mevs, d3, bind_ok, mevs, bind_ok, bind_ok, bind_ok]
    show R.of (opV .add [.lst true [.bl true], .lst true (bD (List.replicate w.length false))]) _ = _
    rw [ad8 hw]; rfl
  rw [mex, d4, bind_ok]
  rfl
theorem st88 {call : CallF} {m w : List Nat} {o : Bool} {y3 y4 y5 : D} (hw : w.length ≤ 6000000) : mex call 100000000 [] s7_8 (En8 m w (.lst o (bD (rowM m w))) y3 y4 y5) = .ok (.ret (.bl (fitB m w))) (En8 m w (.lst o (bD (rowM m w))) y3 y4 y5) := by
  unfold s7_8
  have ln := v_lenS (x := w) (bigN (by omega))
  have i1 : opV .ix [.lst o (bD (rowM m w)), .int (w.length : Int)] = some (.bl (fitB m w)) := by
    have := ix_bD (o := o) (rowM_at (p := m) (w := w) (k := w.length) (Nat.le_refl _))
    rw [List.take_length] at this
    exact this
  generalize (w.length : Int) = L at ln i1
  simp only [mex, mev, mevs, mit, bind_ok, of_some, fix, isHole, truthR, truth, clean, cleans, whole, wholes, frz, frzs, lend, back, store, augSem, isOwn, reduceIte, Bool.false_eq_true, Bool.and_true, Bool.true_and, Bool.and_self, Bool.and_false, Bool.false_and, decide_true, decide_false, List.contains_nil, List.elem_nil, Option.map_some, Bool.not_true, Bool.not_false, g0, g1, g2, g3, g4, g5, g6, g7, g8, g9, g10, g11, g12, g13, st0, st1, st2, st3, st4, st5, st6, st7, st8, st9, st10, st11, st12, st13, v_addI, v_subI, v_ltI, v_leI, v_gtI, v_geI, v_eqI, v_neI, v_eqS, v_neS, v_eqB, v_neB, v_lenL, v_lenT, ln, i1]
theorem lawfits_ok (n : Nat) {m w : List Nat} (hw : w.length ≤ 6000000) : mcall 100000000 T (n + 1) 7 [.str m, .str w] = some (.bl (fitB m w), [.hole, .hole]) := by
  obtain ⟨o', y3, y4, y5, h⟩ := outer_ok (call := mcall 100000000 T n) (m0 := m) hw m [] true .hole .hole .hole
  rw [List.nil_append] at h
  refine run_ret (m := m7) (e := En8 m w (.lst o' (bD (rowM m w))) y3 y4 y5) rfl rfl ?_ rfl
  show mexs _ 100000000 [] b7_4 (En8 m w .hole .hole .hole .hole) = _
  unfold b7_4
  rw [seq_nx (st80 hw)]
  rw [seq_nx (e1 := En8 m w (.lst o' (bD (rowM m w))) y3 y4 y5) (by
    unfold s7_7
    rw [mex]
    simp only [mit, mev, bind_ok, g0, clean, if_true]
    exact h)]
  exact seq_ret (st88 hw)
end Pg
end Mp
set_option maxHeartbeats 0
namespace Mp
namespace Pg
open PySem
/-! ### the law's own steps -/
theorem any_iD {p : Nat} : ∀ {ks : List Nat}, ((iD ks).any fun y => eqF y (.int p)) = decide (p ∈ ks)
  | [] => rfl
  | k :: r => by
    show (((k : Int) == (p : Int)) || (iD r).any fun y => eqF y (.int p)) = _
    rw [any_iD]
    by_cases h : k = p
    · subst h; simp
    · by_cases h2 : p ∈ r
      · simp [h2]
      · rw [decide_eq_false h2, decide_eq_false (by simp [h2]; exact fun e => h e.symm), Bool.or_false]
        exact beq_eq_false_iff_ne.mpr (by omega)
theorem v_inL {p : Nat} {ks : List Nat} {o : Bool} : semIn (.int p) (.lst o (iD ks)) = some (decide (p ∈ ks)) := by
  have e1 : (iD ks).all flat = true := by simp [flat]
  show (if (true && (iD ks).all flat) = true then some ((iD ks).any fun y => eqF y (.int p)) else none) = _
  rw [e1, any_iD]; rfl
theorem v_notinL {p : Nat} {ks : List Nat} {o : Bool} : opV .notin [.int p, .lst o (iD ks)] = some (.bl (!decide (p ∈ ks))) := by
  show (semIn (.int p) (.lst o (iD ks))).map (fun r => D.bl (!r)) = _
  rw [v_inL]; rfl
theorem v_notinT {p : Nat} {ks : List Nat} : opV .notin [.int p, .tup (iD ks)] = some (.bl (!decide (p ∈ ks))) := by
  have e1 : (iD ks).all flat = true := by simp [flat]
  have e : semIn (.int p) (.tup (iD ks)) = some (decide (p ∈ ks)) := by
    show (if (true && (iD ks).all flat) = true then some ((iD ks).any fun y => eqF y (.int p)) else none) = _
    rw [e1, any_iD]; rfl
  show (semIn (.int p) (.tup (iD ks))).map (fun r => D.bl (!r)) = _
  rw [e]; rfl
theorem while9_ok {call : CallF} {m : List Nat} (hm : m.length ≤ 900) (pl : D) : ∀ (n p : Nat) (ks : List Nat), ks.Nodup → (∀ k ∈ ks, k ≤ m.length) → p ≤ m.length → (∀ x ∈ ks, Mp.St m x → x + 1 ∈ ks ∨ x + 1 = p) →
    (if p ∈ ks then 1 else m.length - p + 3) ≤ n → ∃ ks' p', ks'.Nodup ∧ (∀ k ∈ ks', k ≤ m.length) ∧ (∀ x, x ∈ ks' ↔ x ∈ ks ∨ Rch m p x) ∧ Cl m (· ∈ ks') ∧
      whileL (fun e => truthR (mev call (.op .notin (.cons (.bw 3) (.cons (.bw 2) .nil))) e)) (fun e => mexs call 100000000 [] b9_2 e) n [.str m, pl, .lst true (iD ks), .int p] = .ok .nx [.str m, pl, .lst true (iD ks'), .int (p' : Nat)]
  | 0, p, ks, _, _, _, _, hn => by split at hn <;> omega
  | n + 1, p, ks, nd, hb, hp, hc, hn => by
    by_cases hin : p ∈ ks
    · have cl : Cl m (· ∈ ks) := fun x hx st => (hc x hx st).elim id fun e => e ▸ hin
      refine ⟨ks, p, nd, hb, fun x => ⟨.inl, fun h => h.elim id fun r => r.mem cl hin⟩, cl, ?_⟩
      rw [whileL]
      simp only [mex, mev, mevs, mit, bind_ok, of_some, fix, isHole, truthR, truth, clean, cleans, whole, wholes, frz, frzs, lend, back, store, augSem, isOwn, reduceIte, Bool.false_eq_true, Bool.and_true, Bool.true_and, Bool.and_self, Bool.and_false, Bool.false_and, decide_true, decide_false, List.contains_nil, List.elem_nil, Option.map_some, Bool.not_true, Bool.not_false, g0, g1, g2, g3, g4, g5, g6, g7, g8, g9, g10, g11, g12, g13, st0, st1, st2, st3, st4, st5, st6, st7, st8, st9, st10, st11, st12, st13, v_addI, v_subI, v_ltI, v_leI, v_gtI, v_geI, v_eqI, v_neI, v_eqS, v_neS, v_eqB, v_neB, v_lenL, v_lenT, v_notinL, decide_eq_true hin]
    · rw [if_neg hin] at hn
      have hlen : ks.length ≤ m.length + 1 := nodup_le _ ks nd fun x hx => by have := hb x hx; omega
      have nd1 : (ks ++ [p]).Nodup := List.nodup_append.mpr ⟨nd, by simp, fun a ha b hb' e => hin (by simp at hb'; rw [← hb', ← e]; exact ha)⟩
      have hb1 : ∀ k ∈ ks ++ [p], k ≤ m.length := fun k hk => by
        rcases List.mem_append.mp hk with h | h
        · exact hb k h
        · simp at h; omega
      have m1 : p ∈ ks ++ [p] := by simp
      have ap := app_ok (xs := ks) (p := p) (by omega)
      rw [whileL]
      have cond : truthR (mev call (.op .notin (.cons (.bw 3) (.cons (.bw 2) .nil))) [.str m, pl, .lst true (iD ks), .int p]) = .ok true [.str m, pl, .lst true (iD ks), .int p] := by
        simp only [mex, mev, mevs, mit, bind_ok, of_some, fix, isHole, truthR, truth, clean, cleans, whole, wholes, frz, frzs, lend, back, store, augSem, isOwn, reduceIte, Bool.false_eq_true, Bool.and_true, Bool.true_and, Bool.and_self, Bool.and_false, Bool.false_and, decide_true, decide_false, List.contains_nil, List.elem_nil, Option.map_some, Bool.not_true, Bool.not_false, g0, g1, g2, g3, g4, g5, g6, g7, g8, g9, g10, g11, g12, g13, st0, st1, st2, st3, st4, st5, st6, st7, st8, st9, st10, st11, st12, st13, v_addI, v_subI, v_ltI, v_leI, v_gtI, v_geI, v_eqI, v_neI, v_eqS, v_neS, v_eqB, v_neB, v_lenL, v_lenT, v_notinL, decide_eq_false hin]
      by_cases st : m[p]? = some 42
      · have hp1 : p < m.length := (List.getElem?_eq_some_iff.mp st).1
        obtain ⟨ks', p', q1, q2, q4, q5, q6⟩ := while9_ok (call := call) hm pl n (p + 1) (ks ++ [p]) nd1 hb1 hp1 (fun x hx hs => by
          rcases List.mem_append.mp hx with h | h
          · rcases hc x h hs with e | e
            · exact .inl (List.mem_append_left _ e)
            · exact .inl (by rw [e]; exact m1)
          · simp at h; exact .inr (by rw [h])) (by split <;> omega)
        refine ⟨ks', p', q1, q2, fun x => ?_, q5, ?_⟩
        · rw [q4, List.mem_append]
          constructor
          · rintro ((h | h) | h)
            · exact .inl h
            · simp at h; rw [h]; exact .inr (.refl p)
            · exact .inr (.step st h)
          · rintro (h | h)
            · exact .inl (.inl h)
            · cases h with
              | refl => exact .inl (.inr (by simp))
              | step _ h => exact .inr h
        · simp only [cond, bind_ok]
          have body : mexs call 100000000 [] b9_2 [.str m, pl, .lst true (iD ks), .int p] = .ok .nx [.str m, pl, .lst true (iD (ks ++ [p])), .int ((p + 1 : Nat) : Int)] := by
            unfold b9_2 s9_1 s9_3 b9_0 s9_2
            rw [seq_nx (e1 := [.str m, pl, .lst true (iD (ks ++ [p])), .int p]) (by simp only [mex, mev, mevs, mit, bind_ok, of_some, fix, isHole, truthR, truth, clean, cleans, whole, wholes, frz, frzs, lend, back, store, augSem, isOwn, reduceIte, Bool.false_eq_true, Bool.and_true, Bool.true_and, Bool.and_self, Bool.and_false, Bool.false_and, decide_true, decide_false, List.contains_nil, List.elem_nil, Option.map_some, Bool.not_true, Bool.not_false, g0, g1, g2, g3, g4, g5, g6, g7, g8, g9, g10, g11, g12, g13, st0, st1, st2, st3, st4, st5, st6, st7, st8, st9, st10, st11, st12, st13, v_addI, v_subI, v_ltI, v_leI, v_gtI, v_geI, v_eqI, v_neI, v_eqS, v_neS, v_eqB, v_neB, v_lenL, v_lenT, ap])]
            refine (seq_nx (e1 := [.str m, pl, .lst true (iD (ks ++ [p])), .int ((p + 1 : Nat) : Int)]) ?_).trans seq_nil
            rw [ife_t (e1 := [.str m, pl, .lst true (iD (ks ++ [p])), .int p]) (by rw [star0 (by omega), decide_eq_true st])]
            refine (seq_nx ?_).trans seq_nil
            simp only [mex, mev, mevs, mit, bind_ok, of_some, fix, isHole, truthR, truth, clean, cleans, whole, wholes, frz, frzs, lend, back, store, augSem, isOwn, reduceIte, Bool.false_eq_true, Bool.and_true, Bool.true_and, Bool.and_self, Bool.and_false, Bool.false_and, decide_true, decide_false, List.contains_nil, List.elem_nil, Option.map_some, Bool.not_true, Bool.not_false, g0, g1, g2, g3, g4, g5, g6, g7, g8, g9, g10, g11, g12, g13, st0, st1, st2, st3, st4, st5, st6, st7, st8, st9, st10, st11, st12, st13, v_addI, v_subI, v_ltI, v_leI, v_gtI, v_geI, v_eqI, v_neI, v_eqS, v_neS, v_eqB, v_neB, v_lenL, v_lenT]
            rfl
          rw [body, bind_ok]
          exact q6
      · obtain ⟨ks', p', q1, q2, q4, q5, q6⟩ := while9_ok (call := call) hm pl n p (ks ++ [p]) nd1 hb1 hp (fun x hx hs => by
          rcases List.mem_append.mp hx with h | h
          · rcases hc x h hs with e | e
            · exact .inl (List.mem_append_left _ e)
            · exact .inr e
          · simp at h; subst h; exact absurd hs st) (by rw [if_pos m1]; omega)
        refine ⟨ks', p', q1, q2, fun x => ?_, q5, ?_⟩
        · rw [q4, List.mem_append]
          constructor
          · rintro ((h | h) | h)
            · exact .inl h
            · simp at h; rw [h]; exact .inr (.refl p)
            · exact .inr h
          · rintro (h | h)
            · exact .inl (.inl h)
            · exact .inr h
        · simp only [cond, bind_ok]
          have body : mexs call 100000000 [] b9_2 [.str m, pl, .lst true (iD ks), .int p] = .ok .nx [.str m, pl, .lst true (iD (ks ++ [p])), .int p] := by
            unfold b9_2 s9_1 s9_3 b9_1
            rw [seq_nx (e1 := [.str m, pl, .lst true (iD (ks ++ [p])), .int p]) (by simp only [mex, mev, mevs, mit, bind_ok, of_some, fix, isHole, truthR, truth, clean, cleans, whole, wholes, frz, frzs, lend, back, store, augSem, isOwn, reduceIte, Bool.false_eq_true, Bool.and_true, Bool.true_and, Bool.and_self, Bool.and_false, Bool.false_and, decide_true, decide_false, List.contains_nil, List.elem_nil, Option.map_some, Bool.not_true, Bool.not_false, g0, g1, g2, g3, g4, g5, g6, g7, g8, g9, g10, g11, g12, g13, st0, st1, st2, st3, st4, st5, st6, st7, st8, st9, st10, st11, st12, st13, v_addI, v_subI, v_ltI, v_leI, v_gtI, v_geI, v_eqI, v_neI, v_eqS, v_neS, v_eqB, v_neB, v_lenL, v_lenT, ap])]
            refine (seq_nx (e1 := [.str m, pl, .lst true (iD (ks ++ [p])), .int p]) ?_).trans seq_nil
            rw [ife_f (e1 := [.str m, pl, .lst true (iD (ks ++ [p])), .int p]) (by rw [star0 (by omega), decide_eq_false st])]
            exact seq_nil
          rw [body, bind_ok]
          exact q6
theorem for9_ok {call : CallF} {m : List Nat} (hm : m.length ≤ 900) (pl : D) : ∀ (qs ks : List Nat) (pv : D), ks.Nodup → (∀ k ∈ ks, k ≤ m.length) → Cl m (· ∈ ks) → (∀ q ∈ qs, q ≤ m.length) →
    ∃ ks' pv', ks'.Nodup ∧ (∀ k ∈ ks', k ≤ m.length) ∧ (∀ x, x ∈ ks' ↔ x ∈ ks ∨ ∃ q ∈ qs, Rch m q x) ∧
      forL (fun x e2 => (R.of (store [] (.nm 3) x e2) e2).bind fun e3 _ => mexs call 100000000 [] b9_3 e3) (iD qs) [.str m, pl, .lst true (iD ks), pv] = .ok .nx [.str m, pl, .lst true (iD ks'), pv']
  | [], ks, pv, nd, hb, cl, hq => ⟨ks, pv, nd, hb, fun x => ⟨.inl, fun h => h.elim id fun ⟨q, h, _⟩ => nomatch h⟩, rfl⟩
  | q :: qs, ks, pv, nd, hb, cl, hq => by
    have hq0 := hq q (List.mem_cons_self ..)
    obtain ⟨ks1, p1, a1, a2, a4, a5, a6⟩ := while9_ok (call := call) hm pl 100000000 q ks nd hb hq0 (fun x hx st => .inl (cl x hx st)) (by split <;> omega)
    obtain ⟨ks2, p2, bn, b1, b2, b3⟩ := for9_ok (call := call) hm pl qs ks1 (.int p1) a1 a2 a5 fun q hq' => hq q (List.mem_cons_of_mem _ hq')
    refine ⟨ks2, p2, bn, b1, fun x => ?_, ?_⟩
    · rw [b2, a4]
      constructor
      · rintro ((h | h) | ⟨z, hz, h⟩)
        · exact .inl h
        · exact .inr ⟨q, List.mem_cons_self .., h⟩
        · exact .inr ⟨z, List.mem_cons_of_mem _ hz, h⟩
      · rintro (h | ⟨z, hz, h⟩)
        · exact .inl (.inl h)
        · rcases List.mem_cons.mp hz with e | hz
          · exact .inl (.inr (e ▸ h))
          · exact .inr ⟨z, hz, h⟩
    · show forL _ (.int q :: iD qs) _ = _
      rw [forL]
      have one : mexs call 100000000 [] b9_3 [.str m, pl, .lst true (iD ks), .int q] = .ok .nx [.str m, pl, .lst true (iD ks1), .int p1] := by
        unfold b9_3 s9_4
        refine (seq_nx ?_).trans seq_nil
        rw [mex]
        exact a6
      simp only [mex, mev, mevs, mit, bind_ok, of_some, fix, isHole, truthR, truth, clean, cleans, whole, wholes, frz, frzs, lend, back, store, augSem, isOwn, reduceIte, Bool.false_eq_true, Bool.and_true, Bool.true_and, Bool.and_self, Bool.and_false, Bool.false_and, decide_true, decide_false, List.contains_nil, List.elem_nil, Option.map_some, Bool.not_true, Bool.not_false, g0, g1, g2, g3, g4, g5, g6, g7, g8, g9, g10, g11, g12, g13, st0, st1, st2, st3, st4, st5, st6, st7, st8, st9, st10, st11, st12, st13, v_addI, v_subI, v_ltI, v_leI, v_gtI, v_geI, v_eqI, v_neI, v_eqS, v_neS, v_eqB, v_neB, v_lenL, v_lenT, one]
      exact b3
theorem open_ok (n : Nat) {m : List Nat} (hm : m.length ≤ 900) {o : Bool} {ps : List Nat} (hp : ∀ p ∈ ps, p ≤ m.length) :
    mcall 100000000 T (n + 1) 9 [.str m, .lst o (iD ps)] = some (.tup (iD (rowOf m (Cls m (· ∈ ps)))), [.hole, .hole]) := by
  obtain ⟨ks, pv, hn, h1, h2, h3⟩ := for9_ok (call := mcall 100000000 T n) hm (.lst o (iD ps)) (sortN ps) [] .hole List.nodup_nil (by simp) (fun p h => nomatch h) fun q hq => hp q (sortN_mem.mp hq)
  have e : sortN ks = rowOf m (Cls m (· ∈ ps)) := rowOf_eq (sortN_sorted hn) (fun k hk => h1 k (sortN_mem.mp hk)) fun x => by
    rw [sortN_mem, h2]
    constructor
    · rintro (h | ⟨q, hq, r⟩)
      · cases h
      · exact ⟨q, sortN_mem.mp hq, r⟩
    · rintro ⟨q, hq, r⟩
      exact .inr ⟨q, sortN_mem.mpr hq, r⟩
  rw [← e]
  refine run_ret (m := m9) (e := [.str m, .lst o (iD ps), .lst true (iD ks), pv]) rfl rfl ?_ rfl
  show mexs _ 100000000 [] b9_4 [.str m, .lst o (iD ps), .hole, .hole] = _
  unfold b9_4 s9_0 s9_5 s9_6
  rw [seq_nx (e1 := [.str m, .lst o (iD ps), .lst true [], .hole]) (by simp only [mex, mev, mevs, mit, bind_ok, of_some, fix, isHole, truthR, truth, clean, cleans, whole, wholes, frz, frzs, lend, back, store, augSem, isOwn, reduceIte, Bool.false_eq_true, Bool.and_true, Bool.true_and, Bool.and_self, Bool.and_false, Bool.false_and, decide_true, decide_false, List.contains_nil, List.elem_nil, Option.map_some, Bool.not_true, Bool.not_false, g0, g1, g2, g3, g4, g5, g6, g7, g8, g9, g10, g11, g12, g13, st0, st1, st2, st3, st4, st5, st6, st7, st8, st9, st10, st11, st12, st13, v_addI, v_subI, v_ltI, v_leI, v_gtI, v_geI, v_eqI, v_neI, v_eqS, v_neS, v_eqB, v_neB, v_lenL, v_lenT]; rfl)]
  rw [seq_nx (e1 := [.str m, .lst o (iD ps), .lst true (iD ks), pv]) (by
    rw [mex]
    simp only [mit, mev, mevs, bind_ok, isHole, fix, g0, g1, g2, g3, v_sortL, of_some, wholes_iD, frzs_iD, if_true, Bool.false_eq_true, if_false]
    exact h3)]
  exact seq_ret (by simp only [mex, mev, mevs, mit, bind_ok, of_some, fix, isHole, truthR, truth, clean, cleans, whole, wholes, frz, frzs, lend, back, store, augSem, isOwn, reduceIte, Bool.false_eq_true, Bool.and_true, Bool.true_and, Bool.and_self, Bool.and_false, Bool.false_and, decide_true, decide_false, List.contains_nil, List.elem_nil, Option.map_some, Bool.not_true, Bool.not_false, g0, g1, g2, g3, g4, g5, g6, g7, g8, g9, g10, g11, g12, g13, st0, st1, st2, st3, st4, st5, st6, st7, st8, st9, st10, st11, st12, st13, v_addI, v_subI, v_ltI, v_leI, v_gtI, v_geI, v_eqI, v_neI, v_eqS, v_neS, v_eqB, v_neB, v_lenL, v_lenT, v_sortL, v_tupL])
/-! ### a step -/
/-- the places of a row that a test takes, each as told -/
theorem comp_iD {own : List Nat} {f : Nat → Bool} {g : Nat → Nat} {E : Env} {cf : Env → R Bool} {ef : Env → R D} {tg : Tg} : ∀ r : List Nat, (∀ k ∈ r, turnR own tg cf ef (.int (k : Nat)) E = .ok (if f k = true then some (.int (g k : Nat)) else none) E) →
    compL (turnR own tg cf ef) (iD r) E = .ok (iD ((r.filter f).map g)) E
  | [], _ => rfl
  | k :: r, h => by
    show compL _ (.int k :: iD r) E = _
    rw [compL, h k (List.mem_cons_self ..), bind_ok, comp_iD r fun x hx => h x (List.mem_cons_of_mem _ hx), bind_ok]
    cases hf : f k with
    | true => simp [hf, iD]
    | false => simp [hf, iD]
theorem lc_iD {call : CallF} {r : List Nat} {f : Nat → Bool} {g : Nat → Nat} {cond elt : ME} {E : Env} (h1 : get E 1 = .tup (iD r)) (hw : wipeE E [4] = E) (hp : putE E E [4] = E) (ht : ∀ k ∈ r, turnR [4] (.nm 4) (fun e => truthR (mev call cond e)) (fun e => mev call elt e) (.int (k : Nat)) E = .ok (if f k = true then some (.int (g k : Nat)) else none) E)
    (hl : r.length ≤ 1000) : mev call (.lc [4] (.nm 4) (.seq (.cp 1)) cond elt) E = .ok (.lst true (iD ((r.filter f).map g))) E := by
  have hit : mit call (.seq (.cp 1)) E = .ok (iD r) E := by
    rw [mit, mev, h1, show clean (.tup (iD r)) = true by rw [cl_tup, cleans_iD], if_pos rfl, bind_ok]
    show (if wholes (iD r) = true then R.ok (frzs (iD r)) E else R.no) = _
    rw [wholes_iD, if_pos rfl, frzs_iD]
  rw [mev, hit, bind_ok]
  have hb : (iD ((r.filter f).map g)).length ≤ bigLine := by
    rw [List.length_map, List.length_map]
    exact big_of (Nat.le_trans (List.length_filter_le _ _) hl)
  rw [hw, comp_iD r ht, bind_ok, if_pos hb, hp]
end Pg
end Mp
set_option maxHeartbeats 0
namespace Mp
namespace Pg
open PySem
def stB (m : List Nat) (p : Nat) : Bool := decide (m[p]? = some 42)
def inB (m : List Nat) (c p : Nat) : Bool := decide (∃ s, m[p]? = some s ∧ (s = 63 ∨ s = c))
theorem step_ok (n : Nat) {m r : List Nat} {c : Nat} (hm : m.length ≤ 900) (hp : Pl m r) (hc : c ≠ 42) : mcall 100000000 T (n + 2) 10 [.str m, .tup (iD r), .str [c]] = some (.tup (iD (rstep m r c)), [.hole, .hole, .hole]) := by
  have hm' : m.length ≤ 1000 := by omega
  have rl : r.length ≤ 1000 := by have := hp.few; omega
  let fs : List Nat := (r.filter (stB m)).map (fun p => p) ++ (r.filter (inB m c)).map (fun p => p + 1)
  have fm : ∀ x, x ∈ fs ↔ StepS m c (· ∈ r) x := fun x => by
    show x ∈ (r.filter (stB m)).map (fun p => p) ++ (r.filter (inB m c)).map (fun p => p + 1) ↔ _
    rw [List.mem_append, List.map_id']
    constructor
    · rintro (h | h)
      · obtain ⟨h1, h2⟩ := List.mem_filter.mp h
        exact ⟨x, h1, .inl ⟨of_decide_eq_true (p := m[x]? = some 42) h2, rfl⟩⟩
      · obtain ⟨q, hq, rfl⟩ := List.mem_map.mp h
        obtain ⟨h1, h2⟩ := List.mem_filter.mp hq
        obtain ⟨s, e, d⟩ := of_decide_eq_true (p := ∃ s, m[q]? = some s ∧ (s = 63 ∨ s = c)) h2
        by_cases hs : s = 42
        · rcases d with d | d
          · omega
          · exact absurd (d.symm.trans hs) hc
        · exact ⟨q, h1, .inr ⟨⟨s, e, hs, d⟩, rfl⟩⟩
    · rintro ⟨q, hq, ⟨h, rfl⟩ | ⟨⟨s, e, _, d⟩, rfl⟩⟩
      · exact .inl (List.mem_filter.mpr ⟨hq, show stB m x = true from @decide_eq_true (m[x]? = some 42) _ h⟩)
      · exact .inr (List.mem_map.mpr ⟨q, List.mem_filter.mpr ⟨hq, decide_eq_true ⟨s, e, d⟩⟩, rfl⟩)
  have fl : ∀ p ∈ fs, p ≤ m.length := fun p h => by
    obtain ⟨q, hq, ⟨s, rfl⟩ | ⟨⟨s, e, _⟩, rfl⟩⟩ := (fm p).mp h
    · exact Nat.le_of_lt s.lt
    · exact (List.getElem?_eq_some_iff.mp e).1
  have o := open_ok n hm (o := false) fl
  rw [show (fun x => x ∈ fs) = StepS m c (· ∈ r) from funext fun x => propext (fm x)] at o
  refine run_ret (m := m10) (e := [.str m, .tup (iD r), .str [c], .lst false (iD fs), .hole]) rfl rfl ?_ rfl
  show mexs _ 100000000 [] b10_0 [.str m, .tup (iD r), .str [c], .hole, .hole] = _
  unfold b10_0 s10_0 s10_1 s10_2
  rw [seq_nx (e1 := [.str m, .tup (iD r), .str [c], .lst true (iD ((r.filter (stB m)).map fun p => p)), .hole]) (by
    rw [mex, lc_iD (r := r) (f := stB m) (g := fun p => p) rfl rfl rfl (fun k _ => ?_) rl, bind_ok]
    · rfl
    · unfold turnR
      rw [show store [] (.nm 4) (.int (k : Nat)) [.str m, .tup (iD r), .str [c], .hole, .hole] = some [.str m, .tup (iD r), .str [c], .hole, .int k] from rfl, of_some, bind_ok]
      show R.bind (truthR _) _ = _
      rw [star1 hm', bind_ok, show decide (m[k]? = some 42) = stB m k from rfl]
      cases hk : stB m k with
      | true => rfl
      | false => rfl)]
  have add : opV .add [.lst true (iD ((r.filter (stB m)).map fun p => p)), .lst true (iD ((r.filter (inB m c)).map fun p => p + 1))] = some (.lst true (iD fs)) := by
    rw [v_addL (cleans_iD _) (cleans_iD _)]
    · show _ = some (D.lst true (iD (_ ++ _)))
      unfold iD
      rw [List.map_append]
    · rw [List.length_map, List.length_map, List.length_map, List.length_map]
      have h1 := List.length_filter_le (stB m) r
      have h2 := List.length_filter_le (inB m c) r
      unfold bigLine
      omega
  rw [seq_nx (e1 := [.str m, .tup (iD r), .str [c], .lst true (iD fs), .hole]) (by
    have lc := lc_iD (call := mcall 100000000 T (n + 1)) (r := r) (f := inB m c) (g := fun p => p + 1) (E := [.str m, .tup (iD r), .str [c], .lst true (iD ((r.filter (stB m)).map fun p => p)), .hole])
      (cond := .and (.op .lt (.cons (.bw 4) (.cons (.op .len (.cons (.bw 0) .nil)) .nil))) (.op .isin (.cons (.op .ix (.cons (.bw 0) (.cons (.bw 4) .nil))) (.cons (.dsp true (.cons (.c (.str [63])) (.cons (.cp 2) .nil))) .nil)))) (elt := .op .add (.cons (.bw 4) (.cons (.c (.int 1)) .nil))) rfl rfl rfl (fun k _ => by
        unfold turnR
        rw [show store [] (.nm 4) (.int (k : Nat)) [.str m, .tup (iD r), .str [c], .lst true (iD ((r.filter (stB m)).map fun p => p)), .hole] = some [.str m, .tup (iD r), .str [c], .lst true (iD ((r.filter (stB m)).map fun p => p)), .int k] from rfl, of_some, bind_ok]
        show R.bind (truthR _) _ = _
        rw [in1 hm', bind_ok, show decide (∃ s, m[k]? = some s ∧ (s = 63 ∨ s = c)) = inB m c k from rfl]
        cases hk : inB m c k with
        | true => rfl
        | false => rfl) rl
    rw [mex, mev, mevs, mev, show isHole (get [.str m, .tup (iD r), .str [c], .lst true (iD ((r.filter (stB m)).map fun p => p)), .hole] 3) = false from rfl, if_neg (by decide), bind_ok, mevs, lc, bind_ok, mevs, bind_ok, bind_ok, bind_ok]
    show (R.of (opV .add [.lst true (iD ((r.filter (stB m)).map fun p => p)), .lst true (iD ((r.filter (inB m c)).map fun p => p + 1))]) _).bind _ = _
    rw [add]
    rfl)]
  refine seq_ret ?_
  simp only [mex, mev, mevs, bind_ok, clean, g0, g3, if_true, whole, wholes_iD, frz, frzs_iD, st3, lend, back, o]
  rfl
/-! ### the signs -/
theorem sset_ok {o : Bool} {cs : List Nat} (h : cs.length < 64) : opV .sset [.lst o (chars cs)] = some (.lst true (chars (sortC cs))) := by
  have e : ∀ l : List Nat, allSign (chars l) = some l := fun l => by
    induction l with
    | nil => rfl
    | cons c l ih =>
      show (allSign (chars l)).map (c :: ·) = _
      rw [ih]; rfl
  show (allSign (chars cs)).bind (fun l => if l.length < 64 then some (D.lst true ((sortC l).map fun c => .str [c])) else none) = _
  rw [e]
  show (if cs.length < 64 then some (D.lst true ((sortC cs).map fun c => .str [c])) else none) = _
  rw [if_pos h]
  rfl
def qs (c : Nat) : Bool := ![42, 63].contains c
theorem sgs_is {m o : List Nat} {sp : Nat} (gm : Mg m) (go : Mg o) (hs : sp ∈ SG) : sortC ((m ++ o).filter qs ++ [sp]) = sgs m o sp := by
  refine up_ext (sortC_up _) (sgs_sorted m o sp) fun x => ?_
  rw [sortC_mem, List.mem_append, List.mem_singleton]
  unfold sgs
  rw [List.mem_filter, List.mem_filter]
  unfold q1 qs
  have g : x ∈ m ++ o → x = 42 ∨ x = 63 ∨ x ∈ SG := fun h => (List.mem_append.mp h).elim (gm x) (go x)
  have no : x ∈ SG → x ≠ 42 ∧ x ≠ 63 := fun h => ⟨fun e => by subst e; exact absurd h (by decide), fun e => by subst e; exact absurd h (by decide)⟩
  rw [Bool.or_eq_true, decide_eq_true_iff]
  constructor
  · rintro (⟨h1, h2⟩ | h)
    · have h2 : x ≠ 42 ∧ x ≠ 63 := by simpa using h2
      rcases g h1 with e | e | e
      · exact absurd e h2.1
      · exact absurd e h2.2
      · exact ⟨e, .inl (by simpa using h1)⟩
    · subst h
      exact ⟨hs, .inr rfl⟩
  · rintro ⟨h1, h2 | h2⟩
    · obtain ⟨n1, n2⟩ := no h1
      refine .inl ⟨by simpa using h2, ?_⟩
      simp [n1, n2]
    · have e : x = sp := by simpa using h2
      exact .inr e
theorem signs_ok (n : Nat) {m o : List Nat} (hm : m.length ≤ 20) (ho : o.length ≤ 16) (gm : Mg m) (go : Mg o) : ∃ sp, (sp ∈ SG ∧ sp ∉ m ∧ sp ∉ o) ∧ (SG.filter (q0 m o))[0]? = some sp ∧ mcall 100000000 T (n + 1) 11 [.str m, .str o] = some (.lst true (chars (sgs m o sp)), [.hole, .hole]) := by
  obtain ⟨sp, s1, s2, s3⟩ := spare_is (m := m) (o := o) (by rw [List.length_append]; omega)
  refine ⟨sp, ⟨s2, s3⟩, s1, run_ret (m := m11) (e := [.str m, .str o, .str [sp], .hole]) rfl rfl ?_ rfl⟩
  show mexs (mcall 100000000 T n) 100000000 [] b11_0 [.str m, .str o, .hole, .hole] = _
  have hadd : opV .add [.str m, .str o] = some (.str (m ++ o)) := v_addS (by unfold bigLine; omega)
  have lc : ∀ {w : List Nat} {f : Nat → Bool} {it cond : ME} {E : Env}, mit (mcall 100000000 T n) (.seq it) E = .ok (chars w) E → wipeE E [3] = E → putE E E [3] = E → (∀ k : Nat, turnR [3] (.nm 3) (fun e => truthR (mev (mcall 100000000 T n) cond e)) (fun e => mev (mcall 100000000 T n) (.cp 3) e) (.str [k]) E = .ok (if f k = true then some (.str [k]) else none) E) →
      w.length ≤ 1000 → mev (mcall 100000000 T n) (.lc [3] (.nm 3) (.seq it) cond (.cp 3)) E = .ok (.lst true (chars (w.filter f))) E := fun {w f it cond E} hit hw hp ht hl => by
    rw [mev, hit, bind_ok]
    have hb : (chars (w.filter f)).length ≤ bigLine := by
      unfold chars
      rw [List.length_map]
      exact big_of (Nat.le_trans (List.length_filter_le _ _) hl)
    rw [hw, comp_cs ht w, bind_ok, if_pos hb, hp]
  have l1 := lc (w := SG) (f := q0 m o) (it := .c (.str SG)) (cond := .op .notin (.cons (.bw 3) (.cons (.op .add (.cons (.bw 0) (.cons (.bw 1) .nil))) .nil))) (E := [.str m, .str o, .hole, .hole]) rfl rfl rfl (fun k => by
    unfold turnR q0
    cases hk : (m ++ o).contains k with
    | true => simp only [mex, mev, mevs, mit, bind_ok, of_some, fix, truthR, truth, cleans, wholes, frz, frzs, lend, back, store, augSem, isOwn, reduceIte, Bool.false_eq_true, Bool.and_true, Bool.true_and, Bool.and_self, Bool.and_false, Bool.false_and, decide_true, decide_false, List.contains_nil, List.elem_nil, Option.map_some, Bool.not_true, Bool.not_false, g0, g1, g2, g3, g4, g5, g6, g7, g8, g9, g10, g11, g12, g13, st0, st1, st2, st3, st4, st5, st6, st7, st8, st9, st10, st11, st12, st13, v_addI, v_subI, v_ltI, v_leI, v_gtI, v_geI, v_eqI, v_neI, v_eqS, v_neS, v_eqB, v_neB, v_lenL, v_lenT, ih_str, ih_int, ih_tup, ih_lst, ih_dic, ih_bl, ih_non, cl_str, cl_int, cl_bl, cl_non, cl_tup, cl_lst, wh_str, wh_int, wh_bl, wh_non, wh_tup, wh_lst, hadd, v_notinC, hk, Bool.not_true, if_true, wipeE]
    | false => simp only [mex, mev, mevs, mit, bind_ok, of_some, fix, truthR, truth, cleans, wholes, frz, frzs, lend, back, store, augSem, isOwn, reduceIte, Bool.false_eq_true, Bool.and_true, Bool.true_and, Bool.and_self, Bool.and_false, Bool.false_and, decide_true, decide_false, List.contains_nil, List.elem_nil, Option.map_some, Bool.not_true, Bool.not_false, g0, g1, g2, g3, g4, g5, g6, g7, g8, g9, g10, g11, g12, g13, st0, st1, st2, st3, st4, st5, st6, st7, st8, st9, st10, st11, st12, st13, v_addI, v_subI, v_ltI, v_leI, v_gtI, v_geI, v_eqI, v_neI, v_eqS, v_neS, v_eqB, v_neB, v_lenL, v_lenT, ih_str, ih_int, ih_tup, ih_lst, ih_dic, ih_bl, ih_non, cl_str, cl_int, cl_bl, cl_non, cl_tup, cl_lst, wh_str, wh_int, wh_bl, wh_non, wh_tup, wh_lst, hadd, v_notinC, hk, Bool.not_false, if_true, wipeE]) (by decide)
  have l2 := lc (w := m ++ o) (f := qs) (it := .op .add (.cons (.bw 0) (.cons (.bw 1) .nil))) (cond := .op .notin (.cons (.bw 3) (.cons (.c (.str [42, 63])) .nil))) (E := [.str m, .str o, .str [sp], .hole]) (by simp only [mit, mex, mev, mevs, mit, bind_ok, of_some, fix, truthR, truth, cleans, wholes, frz, frzs, lend, back, store, augSem, isOwn, reduceIte, Bool.false_eq_true, Bool.and_true, Bool.true_and, Bool.and_self, Bool.and_false, Bool.false_and, decide_true, decide_false, List.contains_nil, List.elem_nil, Option.map_some, Bool.not_true, Bool.not_false, g0, g1, g2, g3, g4, g5, g6, g7, g8, g9, g10, g11, g12, g13, st0, st1, st2, st3, st4, st5, st6, st7, st8, st9, st10, st11, st12, st13, v_addI, v_subI, v_ltI, v_leI, v_gtI, v_geI, v_eqI, v_neI, v_eqS, v_neS, v_eqB, v_neB, v_lenL, v_lenT, ih_str, ih_int, ih_tup, ih_lst, ih_dic, ih_bl, ih_non, cl_str, cl_int, cl_bl, cl_non, cl_tup, cl_lst, wh_str, wh_int, wh_bl, wh_non, wh_tup, wh_lst, hadd]) rfl rfl (fun k => by
    unfold turnR qs
    cases hk : [42, 63].contains k with
    | true => simp only [mex, mev, mevs, mit, bind_ok, of_some, fix, truthR, truth, cleans, wholes, frz, frzs, lend, back, store, augSem, isOwn, reduceIte, Bool.false_eq_true, Bool.and_true, Bool.true_and, Bool.and_self, Bool.and_false, Bool.false_and, decide_true, decide_false, List.contains_nil, List.elem_nil, Option.map_some, Bool.not_true, Bool.not_false, g0, g1, g2, g3, g4, g5, g6, g7, g8, g9, g10, g11, g12, g13, st0, st1, st2, st3, st4, st5, st6, st7, st8, st9, st10, st11, st12, st13, v_addI, v_subI, v_ltI, v_leI, v_gtI, v_geI, v_eqI, v_neI, v_eqS, v_neS, v_eqB, v_neB, v_lenL, v_lenT, ih_str, ih_int, ih_tup, ih_lst, ih_dic, ih_bl, ih_non, cl_str, cl_int, cl_bl, cl_non, cl_tup, cl_lst, wh_str, wh_int, wh_bl, wh_non, wh_tup, wh_lst, v_notinC, hk, Bool.not_true, if_true, wipeE]
    | false => simp only [mex, mev, mevs, mit, bind_ok, of_some, fix, truthR, truth, cleans, wholes, frz, frzs, lend, back, store, augSem, isOwn, reduceIte, Bool.false_eq_true, Bool.and_true, Bool.true_and, Bool.and_self, Bool.and_false, Bool.false_and, decide_true, decide_false, List.contains_nil, List.elem_nil, Option.map_some, Bool.not_true, Bool.not_false, g0, g1, g2, g3, g4, g5, g6, g7, g8, g9, g10, g11, g12, g13, st0, st1, st2, st3, st4, st5, st6, st7, st8, st9, st10, st11, st12, st13, v_addI, v_subI, v_ltI, v_leI, v_gtI, v_geI, v_eqI, v_neI, v_eqS, v_neS, v_eqB, v_neB, v_lenL, v_lenT, ih_str, ih_int, ih_tup, ih_lst, ih_dic, ih_bl, ih_non, cl_str, cl_int, cl_bl, cl_non, cl_tup, cl_lst, wh_str, wh_int, wh_bl, wh_non, wh_tup, wh_lst, v_notinC, hk, Bool.not_false, if_true, wipeE]) (by rw [List.length_append]; omega)
  have hix : opV .ix [.lst true (chars (SG.filter (q0 m o))), .int 0] = some (.str [sp]) := v_ixL (atL_nat (n := 0) (by unfold chars; rw [List.getElem?_map, s1]; rfl)) rfl
  unfold b11_0 s11_0 s11_1
  rw [seq_nx (e1 := [.str m, .str o, .str [sp], .hole]) (by
    rw [mex, mev, mevs, l1, bind_ok]
    simp only [bind_ok, mevs, mev, fix, hix, of_some, store, List.contains_nil, Bool.false_eq_true, if_false, st2])]
  have len : ((m ++ o).filter qs ++ [sp]).length < 64 := by
    have := List.length_filter_le qs (m ++ o)
    rw [List.length_append] at this ⊢
    rw [List.length_singleton]
    omega
  have add : opV .add [.lst true (chars ((m ++ o).filter qs)), .lst true [.str [sp]]] = some (.lst true (chars ((m ++ o).filter qs ++ [sp]))) := by
    rw [v_addL (cleans_chars _) rfl]
    · unfold chars
      rw [List.map_append]
      rfl
    · have := len
      unfold chars
      rw [List.length_append] at this
      rw [List.length_map, List.length_singleton]
      unfold bigLine
      omega
  have ss := sset_ok (o := true) len
  rw [sgs_is gm go s2] at ss
  refine seq_ret ?_
  have one : decide (([D.str [sp]] : List D).length ≤ bigLine) = true := decide_eq_true (show 1 ≤ bigLine by unfold bigLine; omega)
  have ds : mev (mcall 100000000 T n) (.dsp false (.cons (.cp 2) .nil)) [.str m, .str o, .str [sp], .hole] = .ok (.lst true [.str [sp]]) [.str m, .str o, .str [sp], .hole] := by
    simp only [mex, mev, mevs, mit, bind_ok, of_some, fix, truthR, truth, cleans, wholes, frz, frzs, lend, back, store, augSem, isOwn, reduceIte, Bool.false_eq_true, Bool.and_true, Bool.true_and, Bool.and_self, Bool.and_false, Bool.false_and, decide_true, decide_false, List.contains_nil, List.elem_nil, Option.map_some, Bool.not_true, Bool.not_false, g0, g1, g2, g3, g4, g5, g6, g7, g8, g9, g10, g11, g12, g13, st0, st1, st2, st3, st4, st5, st6, st7, st8, st9, st10, st11, st12, st13, v_addI, v_subI, v_ltI, v_leI, v_gtI, v_geI, v_eqI, v_neI, v_eqS, v_neS, v_eqB, v_neB, v_lenL, v_lenT, ih_str, ih_int, ih_tup, ih_lst, ih_dic, ih_bl, ih_non, cl_str, cl_int, cl_bl, cl_non, cl_tup, cl_lst, wh_str, wh_int, wh_bl, wh_non, wh_tup, wh_lst, one, if_true]
  rw [mex, mev, mevs, mev, mevs, l2, bind_ok, mevs, ds, bind_ok, mevs, bind_ok, bind_ok, bind_ok]
  show (((R.of (opV .add [.lst true (chars ((m ++ o).filter qs)), .lst true [.str [sp]]]) _).bind _).bind _).bind _ = _
  rw [add, of_some, bind_ok, mevs, bind_ok, bind_ok]
  show (R.of (opV .sset [.lst true (chars ((m ++ o).filter qs ++ [sp]))]) _).bind _ = _
  rw [ss]
  rfl
end Pg
end Mp
set_option maxHeartbeats 0
namespace Mp
namespace Pg
open PySem
/-! ### the law's own search -/
def nod (_ : SS) : Prop := False
abbrev kvK (L : List (SS × List Nat)) : List D := (L.map (·.1)).map kD
abbrev kvV (L : List (SS × List Nat)) : List D := L.map fun p => D.str p.2
theorem atN_kD {s : SS} {u : List Nat} : ∀ {L : List (SS × List Nat)}, (L.map (·.1)).Nodup → (s, u) ∈ L → atN (kvK L) (kvV L) (kD s) = some (.str u)
  | (t, v) :: L, nd, h => by
    show (if sameN (kD t) (kD s) = true then some (D.str v) else atN (kvK L) (kvV L) (kD s)) = _
    rw [same_kD]
    obtain ⟨n1, n2⟩ := List.nodup_cons.mp nd
    rcases List.mem_cons.mp h with e | h
    · cases e
      rw [decide_eq_true rfl, if_pos rfl]
    · have ne : ¬ t = s := fun e => n1 (by show t ∈ L.map (·.1); rw [e]; exact List.mem_map_of_mem (f := (·.1)) h)
      rw [decide_eq_false ne, if_neg (by decide), atN_kD n2 h]
theorem v_ixMet {s : SS} {u : List Nat} {L : List (SS × List Nat)} (nd : (L.map (·.1)).Nodup) (h : (s, u) ∈ L) : opV .ix [.dic true (kvK L) (kvV L), .tup [.tup (iD s.1), .tup (iD s.2)]] = some (.str u) := by
  show (if (keyT (kD s) && (kvK L).all keyT && decide ((kvK L).length = (kvV L).length)) = true then (atN (kvK L) (kvV L) (kD s)).bind fun d => if clean d = true then some d else none else none) = _
  rw [if_pos, atN_kD nd h]
  · rfl
  · rw [key_kD, keys_kD, List.length_map, List.length_map, List.length_map, decide_eq_true rfl]
    rfl
theorem v_ixKs {L : List (SS × List Nat)} {k : Nat} {p : SS × List Nat} (h : L[k]? = some p) : opV .ix [.lst true (kvK L), .int k] = some (kD p.1) :=
  v_ixL (atL_nat (by rw [List.getElem?_map, List.getElem?_map, h]; rfl)) (clean_kD _)
theorem app_K {L : List (SS × List Nat)} {p : SS × List Nat} (h : L.length < bigLine) : appSem (.lst true (kvK L)) (kD p.1) = some (.lst true (kvK (L ++ [p]))) := by
  show (if (kvK L).length < bigLine then some (D.lst true (kvK L ++ [kD p.1])) else none) = _
  rw [List.length_map, List.length_map, if_pos h]
  unfold kvK
  rw [List.map_append, List.map_append]
  rfl
abbrev EnL (m o : List Nat) (s0 : SS) (L : List (SS × List Nat)) (k : Nat) (x6 x7 x8 x9 : D) : Env := [.str m, .str o, kD s0, .dic true (kvK L) (kvV L), .lst true (kvK L), .int k, x6, x7, x8, x9]
theorem body_12 (n : Nat) {m o : List Nat} (hm : m.length ≤ 900) (ho : o.length ≤ 900) {s0 s : SS} {L : List (SS × List Nat)} {k : Nat} {u : List Nat} {x9 : D} {c : Nat} (h1 : Pl m s.1) (h2 : Pl o s.2) (hc : c ≠ 42) (nd : (L.map (·.1)).Nodup) (hs : (s, u) ∈ L) (hL : L.length < 10000000) (hu : u.length < 10000000) :
    mexs (mcall 100000000 T (n + 2)) 100000000 [] b12_4 (EnL m o s0 L k (.str [c]) (.tup (iD s.1)) (.tup (iD s.2)) x9) =
      .ok .nx (EnL m o s0 (grow (nod (sst m o s c) ∨ sst m o s c ∈ L.map (·.1)) L (sst m o s c, u ++ [c])) k (.str [c]) (.tup (iD s.1)) (.tup (iD s.2)) (kD (sst m o s c))) := by
  have e1 := step_ok n hm h1 hc
  have e2 := step_ok n ho h2 hc
  unfold b12_4 s12_8
  rw [seq_nx (e1 := EnL m o s0 L k (.str [c]) (.tup (iD s.1)) (.tup (iD s.2)) (kD (sst m o s c))) (by
    simp only [mex, mev, mevs, mit, bind_ok, of_some, fix, truthR, truth, cleans, wholes, frz, frzs, lend, back, store, augSem, isOwn, reduceIte, Bool.false_eq_true, Bool.and_true, Bool.true_and, Bool.and_self, Bool.and_false, Bool.false_and, decide_true, decide_false, List.contains_nil, List.elem_nil, Option.map_some, Bool.not_true, Bool.not_false, g0, g1, g2, g3, g4, g5, g6, g7, g8, g9, g10, g11, g12, g13, st0, st1, st2, st3, st4, st5, st6, st7, st8, st9, st10, st11, st12, st13, v_addI, v_subI, v_ltI, v_leI, v_gtI, v_geI, v_eqI, v_neI, v_eqS, v_neS, v_eqB, v_neB, v_lenL, v_lenT, ih_str, ih_int, ih_tup, ih_lst, ih_dic, ih_bl, ih_non, cl_str, cl_int, cl_bl, cl_non, cl_tup, cl_lst, wh_str, wh_int, wh_bl, wh_non, wh_tup, wh_lst, cleans_iD, e1, e2, wholes_iD, two, if_true]
    rfl)]
  refine (seq_nx ?_).trans seq_nil
  unfold s12_11
  generalize sst m o s c = t
  by_cases hin : t ∈ L.map (·.1)
  · rw [grow_t (show nod t ∨ t ∈ L.map (·.1) from Or.inr hin)]
    rw [ife_f (e1 := EnL m o s0 L k (.str [c]) (.tup (iD s.1)) (.tup (iD s.2)) (kD t)) (by
      simp only [mex, mev, mevs, mit, bind_ok, of_some, fix, truthR, truth, cleans, wholes, frz, frzs, lend, back, store, augSem, isOwn, reduceIte, Bool.false_eq_true, Bool.and_true, Bool.true_and, Bool.and_self, Bool.and_false, Bool.false_and, decide_true, decide_false, List.contains_nil, List.elem_nil, Option.map_some, Bool.not_true, Bool.not_false, g0, g1, g2, g3, g4, g5, g6, g7, g8, g9, g10, g11, g12, g13, st0, st1, st2, st3, st4, st5, st6, st7, st8, st9, st10, st11, st12, st13, v_addI, v_subI, v_ltI, v_leI, v_gtI, v_geI, v_eqI, v_neI, v_eqS, v_neS, v_eqB, v_neB, v_lenL, v_lenT, ih_str, ih_int, ih_tup, ih_lst, ih_dic, ih_bl, ih_non, cl_str, cl_int, cl_bl, cl_non, cl_tup, cl_lst, wh_str, wh_int, wh_bl, wh_non, wh_tup, wh_lst, isHole_kD, v_notinK, decide_eq_true hin])]
    exact seq_nil
  · rw [grow_f (show ¬ (nod t ∨ t ∈ L.map (·.1)) from fun h => h.elim id hin)]
    rw [ife_t (e1 := EnL m o s0 L k (.str [c]) (.tup (iD s.1)) (.tup (iD s.2)) (kD t)) (by
      simp only [mex, mev, mevs, mit, bind_ok, of_some, fix, truthR, truth, cleans, wholes, frz, frzs, lend, back, store, augSem, isOwn, reduceIte, Bool.false_eq_true, Bool.and_true, Bool.true_and, Bool.and_self, Bool.and_false, Bool.false_and, decide_true, decide_false, List.contains_nil, List.elem_nil, Option.map_some, Bool.not_true, Bool.not_false, g0, g1, g2, g3, g4, g5, g6, g7, g8, g9, g10, g11, g12, g13, st0, st1, st2, st3, st4, st5, st6, st7, st8, st9, st10, st11, st12, st13, v_addI, v_subI, v_ltI, v_leI, v_gtI, v_geI, v_eqI, v_neI, v_eqS, v_neS, v_eqB, v_neB, v_lenL, v_lenT, ih_str, ih_int, ih_tup, ih_lst, ih_dic, ih_bl, ih_non, cl_str, cl_int, cl_bl, cl_non, cl_tup, cl_lst, wh_str, wh_int, wh_bl, wh_non, wh_tup, wh_lst, isHole_kD, v_notinK, decide_eq_false hin])]
    unfold b12_2 s12_9 s12_10
    have hb : (L.map (·.1)).length < bigLine := by rw [List.length_map]; unfold bigLine; omega
    have ix := v_ixMet nd hs
    have hadd : opV .add [.str u, .str [c]] = some (.str (u ++ [c])) := v_addS (by simp only [List.length_singleton]; unfold bigLine; omega)
    have hset := set_newK (d := .str (u ++ [c])) (vs := kvV L) hin (by simp) hb
    have ekv : kvV L ++ [D.str (u ++ [c])] = kvV (L ++ [(t, u ++ [c])]) := by unfold kvV; rw [List.map_append]; rfl
    have ekk : ((L.map (·.1) ++ [t]).map kD) = kvK (L ++ [(t, u ++ [c])]) := by unfold kvK; rw [List.map_append (f := fun x : SS × List Nat => x.1)]; rfl
    rw [ekv, ekk] at hset
    rw [seq_nx (e1 := [.str m, .str o, kD s0, .dic true (kvK (L ++ [(t, u ++ [c])])) (kvV (L ++ [(t, u ++ [c])])), .lst true (kvK L), .int k, .str [c], .tup (iD s.1), .tup (iD s.2), kD t]) (by
      simp only [mex, mev, mevs, mit, bind_ok, of_some, fix, truthR, truth, cleans, wholes, frz, frzs, lend, back, store, augSem, isOwn, reduceIte, Bool.false_eq_true, Bool.and_true, Bool.true_and, Bool.and_self, Bool.and_false, Bool.false_and, decide_true, decide_false, List.contains_nil, List.elem_nil, Option.map_some, Bool.not_true, Bool.not_false, g0, g1, g2, g3, g4, g5, g6, g7, g8, g9, g10, g11, g12, g13, st0, st1, st2, st3, st4, st5, st6, st7, st8, st9, st10, st11, st12, st13, v_addI, v_subI, v_ltI, v_leI, v_gtI, v_geI, v_eqI, v_neI, v_eqS, v_neS, v_eqB, v_neB, v_lenL, v_lenT, ih_str, ih_int, ih_tup, ih_lst, ih_dic, ih_bl, ih_non, cl_str, cl_int, cl_bl, cl_non, cl_tup, cl_lst, wh_str, wh_int, wh_bl, wh_non, wh_tup, wh_lst, isHole_kD, clean_kD, cleans_iD, wholes_iD, two, if_true, ix, hadd, hset])]
    refine (seq_nx ?_).trans seq_nil
    have ha := app_K (L := L) (p := (t, u ++ [c])) (by unfold bigLine; omega)
    simp only [mex, mev, mevs, mit, bind_ok, of_some, fix, truthR, truth, cleans, wholes, frz, frzs, lend, back, store, augSem, isOwn, reduceIte, Bool.false_eq_true, Bool.and_true, Bool.true_and, Bool.and_self, Bool.and_false, Bool.false_and, decide_true, decide_false, List.contains_nil, List.elem_nil, Option.map_some, Bool.not_true, Bool.not_false, g0, g1, g2, g3, g4, g5, g6, g7, g8, g9, g10, g11, g12, g13, st0, st1, st2, st3, st4, st5, st6, st7, st8, st9, st10, st11, st12, st13, v_addI, v_subI, v_ltI, v_leI, v_gtI, v_geI, v_eqI, v_neI, v_eqS, v_neS, v_eqB, v_neB, v_lenL, v_lenT, ih_str, ih_int, ih_tup, ih_lst, ih_dic, ih_bl, ih_non, cl_str, cl_int, cl_bl, cl_non, cl_tup, cl_lst, wh_str, wh_int, wh_bl, wh_non, wh_tup, wh_lst, isHole_kD, clean_kD, if_true, ha]
theorem Gd.push2 {m o : List Nat} (hw : Fw m o) {L : List (SS × List Nat)} (h : Gd m o L) {s : SS} {u : List Nat} {c : Nat} (hs : Gs m o s) (hu : u.length < L.length) :
    Gd m o (grow (nod (sst m o s c) ∨ sst m o s c ∈ L.map (·.1)) L (sst m o s c, u ++ [c])) := by
  by_cases hn : nod (sst m o s c) ∨ sst m o s c ∈ L.map (·.1)
  · rw [grow_t hn]
    exact h
  · rw [grow_f hn]
    rw [not_or] at hn
    refine ⟨?_, fun p hp => ?_⟩
    · rw [List.map_append, List.nodup_append]
      refine ⟨h.nd, by simp, fun a ha b hb e => ?_⟩
      have hb : b = sst m o s c := by simpa using hb
      exact hn.2 (by rw [← hb, ← e]; exact ha)
    · rw [List.length_append, List.length_singleton]
      rcases List.mem_append.mp hp with hp | hp
      · have := h.st p hp
        exact ⟨this.1, by omega⟩
      · rw [List.mem_singleton] at hp
        subst hp
        exact ⟨hs.step hw c, by simp; omega⟩
theorem grow_mem {P : Prop} {α : Type} {L : List α} {x y : α} (h : y ∈ L) : y ∈ grow P L x := by
  by_cases hp : P
  · rw [grow_t hp]; exact h
  · rw [grow_f hp]; exact List.mem_append_left _ h
theorem for_12 (n : Nat) {m o : List Nat} (hw : Fw m o) {s0 s : SS} {k : Nat} {u : List Nat} (hs : Gs m o s) : ∀ (cs : List Nat) (L : List (SS × List Nat)) (x6 x9 : D), (∀ c ∈ cs, c ≠ 42) → Gd m o L → (s, u) ∈ L →
    ∃ x6' x9', Gd m o (exps (sst m o) nod s u cs L) ∧ L.length ≤ (exps (sst m o) nod s u cs L).length ∧
      forL (fun x e2 => (R.of (store [] (.nm 6) x e2) e2).bind fun e3 _ => mexs (mcall 100000000 T (n + 2)) 100000000 [] b12_4 e3) (chars cs) (EnL m o s0 L k x6 (.tup (iD s.1)) (.tup (iD s.2)) x9) =
        .ok .nx (EnL m o s0 (exps (sst m o) nod s u cs L) k x6' (.tup (iD s.1)) (.tup (iD s.2)) x9')
  | [], L, x6, x9, _, g, _ => ⟨x6, x9, by rw [exps]; exact g, by rw [exps]; exact Nat.le_refl _, by rw [exps]; rfl⟩
  | c :: cs, L, x6, x9, h42, g, hu => by
    have hl := g.len
    have hf := hw.few
    have hm := hw.mb
    have ho := hw.ob
    have hul := (g.st _ hu).2
    have hul : u.length < L.length := hul
    have b := body_12 n hm ho (s0 := s0) (L := L) (k := k) (u := u) (x9 := x9) (c := c) hs.pl1 hs.pl2 (h42 c (List.mem_cons_self ..)) g.nd hu (by omega) (by omega)
    have g2 := Gd.push2 hw g (c := c) hs hul
    have gl := grow_len (P := nod (sst m o s c) ∨ sst m o s c ∈ L.map (·.1)) (L := L) (x := (sst m o s c, u ++ [c]))
    obtain ⟨x6', x9', q1, q2, q3⟩ := for_12 n hw (s0 := s0) (k := k) (u := u) hs cs _ (.str [c]) (kD (sst m o s c)) (fun x hx => h42 x (List.mem_cons_of_mem _ hx)) g2 (grow_mem hu)
    refine ⟨x6', x9', by rw [exps]; exact q1, by rw [exps]; omega, ?_⟩
    rw [exps]
    show forL _ (.str [c] :: chars cs) _ = _
    rw [forL]
    have st : store [] (.nm 6) (.str [c]) (EnL m o s0 L k x6 (.tup (iD s.1)) (.tup (iD s.2)) x9) = some (EnL m o s0 L k (.str [c]) (.tup (iD s.1)) (.tup (iD s.2)) x9) := rfl
    rw [st, of_some, bind_ok, b, bind_ok]
    exact q3
end Pg
end Mp
set_option maxHeartbeats 0
namespace Mp
namespace Pg
open PySem
theorem sgs_42 {m o : List Nat} {sp : Nat} : ∀ c ∈ sgs m o sp, c ≠ 42 := fun c hc e => by
  have : c ∈ SG := (List.mem_filter.mp hc).1
  rw [e] at this
  exact absurd this (by decide)
theorem st_78 {a0 a1 a2 a3 a4 a5 a6 a7 a8 a9 : D} {s : SS} : store [] (.tp [7, 8]) (kD s) [a0, a1, a2, a3, a4, a5, a6, a7, a8, a9] = some [a0, a1, a2, a3, a4, a5, a6, .tup (iD s.1), .tup (iD s.2), a9] := rfl
theorem turn_12 (n : Nat) {m o : List Nat} (hw : Fw m o) {sp : Nat} {s0 s : SS} {L : List (SS × List Nat)} {k : Nat} {u : List Nat} {x6 x7 x8 x9 : D} (g : Gd m o L) (hk : L[k]? = some (s, u))
    (hsg : mcall 100000000 T (n + 2) 11 [.str m, .str o] = some (.lst true (chars (sgs m o sp)), [.hole, .hole])) :
    (sgoal m o s → ∃ e', mexs (mcall 100000000 T (n + 2)) 100000000 [] b12_5 (EnL m o s0 L k x6 x7 x8 x9) = .ok (.ret (.str u)) e') ∧
    (¬ sgoal m o s → ∃ x6' x9', Gd m o (exps (sst m o) nod s u (sgs m o sp) L) ∧ L.length ≤ (exps (sst m o) nod s u (sgs m o sp) L).length ∧
      mexs (mcall 100000000 T (n + 2)) 100000000 [] b12_5 (EnL m o s0 L k x6 x7 x8 x9) = .ok .nx (EnL m o s0 (exps (sst m o) nod s u (sgs m o sp) L) (k + 1) x6' (.tup (iD s.1)) (.tup (iD s.2)) x9')) := by
  have hmem := List.mem_of_getElem? hk
  obtain ⟨hs, hul⟩ := g.st _ hmem
  have hm := hw.mb
  have ho := hw.ob
  have ln1 := v_lenS (x := m) (big_of (by omega))
  have ln2 := v_lenS (x := o) (big_of (by omega))
  have e4 : mex (mcall 100000000 T (n + 2)) 100000000 [] s12_4 (EnL m o s0 L k x6 x7 x8 x9) = .ok .nx (EnL m o s0 L k x6 (.tup (iD s.1)) (.tup (iD s.2)) x9) := by
    unfold s12_4
    simp only [mex, mev, mevs, bind_ok, of_some, fix, g4, g5, ih_lst, ih_int, Bool.false_eq_true, if_false, v_ixKs hk, st_78]
  have e5 : mex (mcall 100000000 T (n + 2)) 100000000 [] s12_5 (EnL m o s0 L k x6 (.tup (iD s.1)) (.tup (iD s.2)) x9) = .ok .nx (EnL m o s0 L (k + 1) x6 (.tup (iD s.1)) (.tup (iD s.2)) x9) := by
    unfold s12_5
    simp only [mex, mev, mevs, mit, bind_ok, of_some, fix, truthR, truth, cleans, wholes, frz, frzs, lend, back, store, augSem, isOwn, reduceIte, Bool.false_eq_true, Bool.and_true, Bool.true_and, Bool.and_self, Bool.and_false, Bool.false_and, decide_true, decide_false, List.contains_nil, List.elem_nil, Option.map_some, Bool.not_true, Bool.not_false, g0, g1, g2, g3, g4, g5, g6, g7, g8, g9, g10, g11, g12, g13, st0, st1, st2, st3, st4, st5, st6, st7, st8, st9, st10, st11, st12, st13, v_addI, v_subI, v_ltI, v_leI, v_gtI, v_geI, v_eqI, v_neI, v_eqS, v_neS, v_eqB, v_neB, v_lenL, v_lenT, ih_str, ih_int, ih_tup, ih_lst, ih_dic, ih_bl, ih_non, cl_str, cl_int, cl_bl, cl_non, cl_tup, cl_lst, wh_str, wh_int, wh_bl, wh_non, wh_tup, wh_lst]
    rfl
  unfold b12_5
  rw [seq_nx e4, seq_nx e5]
  have hcond : truthR (mev (mcall 100000000 T (n + 2)) (.and (.op .isin (.cons (.op .len (.cons (.bw 1) .nil)) (.cons (.bw 8) .nil))) (.op .notin (.cons (.op .len (.cons (.bw 0) .nil)) (.cons (.bw 7) .nil)))) (EnL m o s0 L (k + 1) x6 (.tup (iD s.1)) (.tup (iD s.2)) x9)) =
      .ok (decide (o.length ∈ s.2) && !decide (m.length ∈ s.1)) (EnL m o s0 L (k + 1) x6 (.tup (iD s.1)) (.tup (iD s.2)) x9) := by
    by_cases h2 : o.length ∈ s.2
    · simp only [mex, mev, mevs, mit, bind_ok, of_some, fix, truthR, truth, cleans, wholes, frz, frzs, lend, back, store, augSem, isOwn, reduceIte, Bool.false_eq_true, Bool.and_true, Bool.true_and, Bool.and_self, Bool.and_false, Bool.false_and, decide_true, decide_false, List.contains_nil, List.elem_nil, Option.map_some, Bool.not_true, Bool.not_false, g0, g1, g2, g3, g4, g5, g6, g7, g8, g9, g10, g11, g12, g13, st0, st1, st2, st3, st4, st5, st6, st7, st8, st9, st10, st11, st12, st13, v_addI, v_subI, v_ltI, v_leI, v_gtI, v_geI, v_eqI, v_neI, v_eqS, v_neS, v_eqB, v_neB, v_lenL, v_lenT, ih_str, ih_int, ih_tup, ih_lst, ih_dic, ih_bl, ih_non, cl_str, cl_int, cl_bl, cl_non, cl_tup, cl_lst, wh_str, wh_int, wh_bl, wh_non, wh_tup, wh_lst, ln1, ln2, v_inT, v_notinT, decide_eq_true h2]
    · simp only [mex, mev, mevs, mit, bind_ok, of_some, fix, truthR, truth, cleans, wholes, frz, frzs, lend, back, store, augSem, isOwn, reduceIte, Bool.false_eq_true, Bool.and_true, Bool.true_and, Bool.and_self, Bool.and_false, Bool.false_and, decide_true, decide_false, List.contains_nil, List.elem_nil, Option.map_some, Bool.not_true, Bool.not_false, g0, g1, g2, g3, g4, g5, g6, g7, g8, g9, g10, g11, g12, g13, st0, st1, st2, st3, st4, st5, st6, st7, st8, st9, st10, st11, st12, st13, v_addI, v_subI, v_ltI, v_leI, v_gtI, v_geI, v_eqI, v_neI, v_eqS, v_neS, v_eqB, v_neB, v_lenL, v_lenT, ih_str, ih_int, ih_tup, ih_lst, ih_dic, ih_bl, ih_non, cl_str, cl_int, cl_bl, cl_non, cl_tup, cl_lst, wh_str, wh_int, wh_bl, wh_non, wh_tup, wh_lst, ln1, ln2, v_inT, v_notinT, decide_eq_false h2]
  unfold s12_7
  constructor
  · intro hg
    have hc : (decide (o.length ∈ s.2) && !decide (m.length ∈ s.1)) = true := by rw [decide_eq_true hg.1, decide_eq_false hg.2]; rfl
    rw [hc] at hcond
    have er : mexs (mcall 100000000 T (n + 2)) 100000000 [] b12_0 (EnL m o s0 L (k + 1) x6 (.tup (iD s.1)) (.tup (iD s.2)) x9) = .ok (.ret (.str u)) (EnL m o s0 L (k + 1) x6 (.tup (iD s.1)) (.tup (iD s.2)) x9) := by
      unfold b12_0 s12_6
      have ix := v_ixMet g.nd hmem
      exact seq_ret (by simp only [mex, mev, mevs, mit, bind_ok, of_some, fix, truthR, truth, cleans, wholes, frz, frzs, lend, back, store, augSem, isOwn, reduceIte, Bool.false_eq_true, Bool.and_true, Bool.true_and, Bool.and_self, Bool.and_false, Bool.false_and, decide_true, decide_false, List.contains_nil, List.elem_nil, Option.map_some, Bool.not_true, Bool.not_false, g0, g1, g2, g3, g4, g5, g6, g7, g8, g9, g10, g11, g12, g13, st0, st1, st2, st3, st4, st5, st6, st7, st8, st9, st10, st11, st12, st13, v_addI, v_subI, v_ltI, v_leI, v_gtI, v_geI, v_eqI, v_neI, v_eqS, v_neS, v_eqB, v_neB, v_lenL, v_lenT, ih_str, ih_int, ih_tup, ih_lst, ih_dic, ih_bl, ih_non, cl_str, cl_int, cl_bl, cl_non, cl_tup, cl_lst, wh_str, wh_int, wh_bl, wh_non, wh_tup, wh_lst, cleans_iD, wholes_iD, two, if_true, ix])
    exact ⟨_, seq_ret ((ife_t hcond).trans er)⟩
  · intro hg
    have hc : (decide (o.length ∈ s.2) && !decide (m.length ∈ s.1)) = false := by
      by_cases h2 : o.length ∈ s.2
      · have h1 : m.length ∈ s.1 := Classical.byContradiction fun h => hg ⟨h2, h⟩
        rw [decide_eq_true h1, decide_eq_true h2]; rfl
      · rw [decide_eq_false h2]; rfl
    rw [hc] at hcond
    unfold b12_1
    rw [seq_nx ((ife_f hcond).trans seq_nil)]
    obtain ⟨x6', x9', q1, q2, q3⟩ := for_12 n hw (s0 := s0) (k := k + 1) (u := u) hs (sgs m o sp) L x6 x9 sgs_42 g hmem
    refine ⟨x6', x9', q1, q2, ?_⟩
    refine (seq_nx ?_).trans seq_nil
    unfold s12_12
    rw [mex]
    have hit : mit (mcall 100000000 T (n + 2)) (.seq (.call 11 (.cons (.cp 0) (.cons (.cp 1) .nil)))) (EnL m o s0 L (k + 1) x6 (.tup (iD s.1)) (.tup (iD s.2)) x9) = .ok (chars (sgs m o sp)) (EnL m o s0 L (k + 1) x6 (.tup (iD s.1)) (.tup (iD s.2)) x9) := by
      simp only [mit, mex, mev, mevs, mit, bind_ok, of_some, fix, truthR, truth, cleans, wholes, frz, frzs, lend, back, store, augSem, isOwn, reduceIte, Bool.false_eq_true, Bool.and_true, Bool.true_and, Bool.and_self, Bool.and_false, Bool.false_and, decide_true, decide_false, List.contains_nil, List.elem_nil, Option.map_some, Bool.not_true, Bool.not_false, g0, g1, g2, g3, g4, g5, g6, g7, g8, g9, g10, g11, g12, g13, st0, st1, st2, st3, st4, st5, st6, st7, st8, st9, st10, st11, st12, st13, v_addI, v_subI, v_ltI, v_leI, v_gtI, v_geI, v_eqI, v_neI, v_eqS, v_neS, v_eqB, v_neB, v_lenL, v_lenT, ih_str, ih_int, ih_tup, ih_lst, ih_dic, ih_bl, ih_non, cl_str, cl_int, cl_bl, cl_non, cl_tup, cl_lst, wh_str, wh_int, wh_bl, wh_non, wh_tup, wh_lst, hsg, wholes_chars, frzs_chars, if_true]
    rw [hit, bind_ok]
    exact q3
theorem nod_no {m o : List Nat} : ∀ (s : SS) (w : List Nat), nod s → ¬ sgoal m o (runS (sst m o) s w) := fun _ _ h => h.elim
theorem while_12 (n : Nat) {m o : List Nat} (hw : Fw m o) {sp : Nat} {s0 : SS} (hs0 : s0 = ss0 m o) (hsg : mcall 100000000 T (n + 2) 11 [.str m, .str o] = some (.lst true (chars (sgs m o sp)), [.hole, .hole])) :
    ∀ (N : Nat) (L : List (SS × List Nat)) (k : Nat) (x6 x7 x8 x9 : D), Ov (sst m o) (sgoal m o) (sgs m o sp) (ss0 m o) L k → Gd m o L → k ≤ L.length → 5000001 ≤ N + k →
    ∃ r e', whileL (fun e => truthR (mev (mcall 100000000 T (n + 2)) (.op .lt (.cons (.bw 5) (.cons (.op .len (.cons (.bw 4) .nil)) .nil))) e)) (fun e => mexs (mcall 100000000 T (n + 2)) 100000000 [] b12_5 e) N (EnL m o s0 L k x6 x7 x8 x9) = .ok r e' ∧
      ((∃ u, r = .ret (.str u) ∧ IsMin (sst m o) (sgoal m o) (sgs m o sp) (ss0 m o) u) ∨ (r = .nx ∧ ∀ w, ¬ GoalW (sst m o) (sgoal m o) (sgs m o sp) (ss0 m o) w))
  | 0, L, k, _, _, _, _, _, g, hk, hN => by
    have := g.len
    have := hw.few
    omega
  | N + 1, L, k, x6, x7, x8, x9, ov, g, hk, hN => by
    have hc : truthR (mev (mcall 100000000 T (n + 2)) (.op .lt (.cons (.bw 5) (.cons (.op .len (.cons (.bw 4) .nil)) .nil))) (EnL m o s0 L k x6 x7 x8 x9)) = .ok (decide (k < L.length)) (EnL m o s0 L k x6 x7 x8 x9) := by
      simp only [mex, mev, mevs, mit, bind_ok, of_some, fix, truthR, truth, cleans, wholes, frz, frzs, lend, back, store, augSem, isOwn, reduceIte, Bool.false_eq_true, Bool.and_true, Bool.true_and, Bool.and_self, Bool.and_false, Bool.false_and, decide_true, decide_false, List.contains_nil, List.elem_nil, Option.map_some, Bool.not_true, Bool.not_false, g0, g1, g2, g3, g4, g5, g6, g7, g8, g9, g10, g11, g12, g13, st0, st1, st2, st3, st4, st5, st6, st7, st8, st9, st10, st11, st12, st13, v_addI, v_subI, v_ltI, v_leI, v_gtI, v_geI, v_eqI, v_neI, v_eqS, v_neS, v_eqB, v_neB, v_lenL, v_lenT, ih_str, ih_int, ih_tup, ih_lst, ih_dic, ih_bl, ih_non, cl_str, cl_int, cl_bl, cl_non, cl_tup, cl_lst, wh_str, wh_int, wh_bl, wh_non, wh_tup, wh_lst, List.length_map, dec_lt]
    rw [whileL, hc, bind_ok]
    by_cases hlt : k < L.length
    · rw [decide_eq_true hlt]
      obtain ⟨⟨s, u⟩, hku⟩ : ∃ p, L[k]? = some p := ⟨L[k], List.getElem?_eq_getElem hlt⟩
      obtain ⟨t1, t2⟩ := turn_12 n hw (sp := sp) (s0 := s0) (x6 := x6) (x7 := x7) (x8 := x8) (x9 := x9) g hku hsg
      by_cases hg : sgoal m o s
      · obtain ⟨e', h⟩ := t1 hg
        refine ⟨.ret (.str u), e', ?_, .inl ⟨u, rfl, ov_goal ov hku hg⟩⟩
        simp only [h, bind_ok]
      · obtain ⟨x6', x9', q1, q2, q3⟩ := t2 hg
        obtain ⟨r, e', w1, w2⟩ := while_12 n hw hs0 hsg N _ (k + 1) x6' (.tup (iD s.1)) (.tup (iD s.2)) x9' (ov_step nod_no (sgs_sorted m o sp) ov hku hg) q1 (by omega) (by omega)
        refine ⟨r, e', ?_, w2⟩
        simp only [q3, bind_ok]
        exact w1
    · rw [decide_eq_false hlt]
      exact ⟨.nx, _, rfl, .inr ⟨rfl, ov_end ov (by omega)⟩⟩
theorem first_ok (n : Nat) {m o : List Nat} {sp : Nat} (hw : Fw m o) (hsg : mcall 100000000 T (n + 2) 11 [.str m, .str o] = some (.lst true (chars (sgs m o sp)), [.hole, .hole])) : ∃ r, mcall 100000000 T (n + 3) 12 [.str m, .str o] = some (r, [.hole, .hole]) ∧
    ((∃ u, r = .str u ∧ IsMin (sst m o) (sgoal m o) (sgs m o sp) (ss0 m o) u) ∨ (r = .non ∧ ∀ w, ¬ GoalW (sst m o) (sgoal m o) (sgs m o sp) (ss0 m o) w)) := by
  have hm := hw.mb
  have ho := hw.ob
  have z1 : mcall 100000000 T (n + 2) 9 [.str m, .lst true [.int 0]] = some (.tup (iD (row0 m)), [.hole, .hole]) := open_ok (n + 1) hm (o := true) (ps := [0]) (by simp)
  have z2 : mcall 100000000 T (n + 2) 9 [.str o, .lst true [.int 0]] = some (.tup (iD (row0 o)), [.hole, .hole]) := open_ok (n + 1) ho (o := true) (ps := [0]) (by simp)
  have g0' : Gd m o [(ss0 m o, [])] := ⟨by simp, fun p hp => by
    rw [List.mem_singleton] at hp
    subst hp
    exact ⟨Gs.zero hw, by simp⟩⟩
  obtain ⟨r, e', w1, w2⟩ := while_12 n hw (s0 := ss0 m o) rfl hsg 100000000 [(ss0 m o, [])] 0 .hole .hole .hole .hole ov_init g0' (by simp) (by omega)
  have one : ∀ x : D, decide (([x] : List D).length ≤ bigLine) = true := fun x => decide_eq_true (show 1 ≤ bigLine by unfold bigLine; omega)
  have body : mexs (mcall 100000000 T (n + 2)) 100000000 [] b12_6 [.str m, .str o, .hole, .hole, .hole, .hole, .hole, .hole, .hole, .hole] = (R.ok r e').bind fun o' e1 => match o' with
      | .nx => .ok (.ret .non) e1
      | o => .ok o e1 := by
    unfold b12_6
    rw [seq_nx (e1 := [.str m, .str o, kD (ss0 m o), .hole, .hole, .hole, .hole, .hole, .hole, .hole]) (by
      unfold s12_0
      simp only [mex, mev, mevs, mit, bind_ok, of_some, fix, truthR, truth, cleans, wholes, frz, frzs, lend, back, store, augSem, isOwn, reduceIte, Bool.false_eq_true, Bool.and_true, Bool.true_and, Bool.and_self, Bool.and_false, Bool.false_and, decide_true, decide_false, List.contains_nil, List.elem_nil, Option.map_some, Bool.not_true, Bool.not_false, g0, g1, g2, g3, g4, g5, g6, g7, g8, g9, g10, g11, g12, g13, st0, st1, st2, st3, st4, st5, st6, st7, st8, st9, st10, st11, st12, st13, v_addI, v_subI, v_ltI, v_leI, v_gtI, v_geI, v_eqI, v_neI, v_eqS, v_neS, v_eqB, v_neB, v_lenL, v_lenT, ih_str, ih_int, ih_tup, ih_lst, ih_dic, ih_bl, ih_non, cl_str, cl_int, cl_bl, cl_non, cl_tup, cl_lst, wh_str, wh_int, wh_bl, wh_non, wh_tup, wh_lst, one, z1, z2, wholes_iD, two, if_true]
      rfl)]
    rw [seq_nx (e1 := [.str m, .str o, kD (ss0 m o), .dic true [kD (ss0 m o)] [.str []], .hole, .hole, .hole, .hole, .hole, .hole]) (by
      unfold s12_1
      simp only [mex, mev, mevs, mit, bind_ok, of_some, fix, truthR, truth, cleans, wholes, frz, frzs, lend, back, store, augSem, isOwn, reduceIte, Bool.false_eq_true, Bool.and_true, Bool.true_and, Bool.and_self, Bool.and_false, Bool.false_and, decide_true, decide_false, List.contains_nil, List.elem_nil, Option.map_some, Bool.not_true, Bool.not_false, g0, g1, g2, g3, g4, g5, g6, g7, g8, g9, g10, g11, g12, g13, st0, st1, st2, st3, st4, st5, st6, st7, st8, st9, st10, st11, st12, st13, v_addI, v_subI, v_ltI, v_leI, v_gtI, v_geI, v_eqI, v_neI, v_eqS, v_neS, v_eqB, v_neB, v_lenL, v_lenT, ih_str, ih_int, ih_tup, ih_lst, ih_dic, ih_bl, ih_non, cl_str, cl_int, cl_bl, cl_non, cl_tup, cl_lst, wh_str, wh_int, wh_bl, wh_non, wh_tup, wh_lst, clean_kD, key_kD, if_true])]
    rw [seq_nx (e1 := [.str m, .str o, kD (ss0 m o), .dic true [kD (ss0 m o)] [.str []], .lst true [kD (ss0 m o)], .hole, .hole, .hole, .hole, .hole]) (by
      unfold s12_2
      simp only [mex, mev, mevs, mit, bind_ok, of_some, fix, truthR, truth, cleans, wholes, frz, frzs, lend, back, store, augSem, isOwn, reduceIte, Bool.false_eq_true, Bool.and_true, Bool.true_and, Bool.and_self, Bool.and_false, Bool.false_and, decide_true, decide_false, List.contains_nil, List.elem_nil, Option.map_some, Bool.not_true, Bool.not_false, g0, g1, g2, g3, g4, g5, g6, g7, g8, g9, g10, g11, g12, g13, st0, st1, st2, st3, st4, st5, st6, st7, st8, st9, st10, st11, st12, st13, v_addI, v_subI, v_ltI, v_leI, v_gtI, v_geI, v_eqI, v_neI, v_eqS, v_neS, v_eqB, v_neB, v_lenL, v_lenT, ih_str, ih_int, ih_tup, ih_lst, ih_dic, ih_bl, ih_non, cl_str, cl_int, cl_bl, cl_non, cl_tup, cl_lst, wh_str, wh_int, wh_bl, wh_non, wh_tup, wh_lst, clean_kD, whole_kD, one, if_true])]
    rw [seq_nx (e1 := EnL m o (ss0 m o) [(ss0 m o, [])] 0 .hole .hole .hole .hole) (by
      unfold s12_3
      simp only [mex, mev, mevs, mit, bind_ok, of_some, fix, truthR, truth, cleans, wholes, frz, frzs, lend, back, store, augSem, isOwn, reduceIte, Bool.false_eq_true, Bool.and_true, Bool.true_and, Bool.and_self, Bool.and_false, Bool.false_and, decide_true, decide_false, List.contains_nil, List.elem_nil, Option.map_some, Bool.not_true, Bool.not_false, g0, g1, g2, g3, g4, g5, g6, g7, g8, g9, g10, g11, g12, g13, st0, st1, st2, st3, st4, st5, st6, st7, st8, st9, st10, st11, st12, st13, v_addI, v_subI, v_ltI, v_leI, v_gtI, v_geI, v_eqI, v_neI, v_eqS, v_neS, v_eqB, v_neB, v_lenL, v_lenT, ih_str, ih_int, ih_tup, ih_lst, ih_dic, ih_bl, ih_non, cl_str, cl_int, cl_bl, cl_non, cl_tup, cl_lst, wh_str, wh_int, wh_bl, wh_non, wh_tup, wh_lst]
      rfl)]
    rw [mexs]
    unfold s12_13
    rw [mex, w1]
    simp only [bind_ok]
    cases r <;> rfl
  rcases w2 with ⟨u, rfl, hu⟩ | ⟨rfl, hn⟩
  · exact ⟨.str u, run_ret (m := m12) (e := e') rfl rfl body rfl, .inl ⟨u, rfl, hu⟩⟩
  · exact ⟨.non, run_ret (m := m12) (e := e') rfl rfl body rfl, .inr ⟨rfl, hn⟩⟩
theorem min_one {m o sg : List Nat} {u v : List Nat} (hu : IsMin (sst m o) (sgoal m o) sg (ss0 m o) u) (hv : IsMin (sst m o) (sgoal m o) sg (ss0 m o) v) : u = v := by
  rcases slt_tri u v with e | e | e
  · exact e
  · exact absurd e (hv.2 u hu.1)
  · exact absurd e (hu.2 v hv.1)
/-- both told the same -/
theorem told_ok (n : Nat) {m o : List Nat} (hm : m.length ≤ 9) (ho : o.length ≤ 9) (gm : Mg m) (go : Mg o) : ∃ sp r, (sp ∈ SG ∧ sp ∉ m ∧ sp ∉ o) ∧ mcall 100000000 T (n + 4) 3 [.str m, .str o] = some (r, [.hole, .hole]) ∧ mcall 100000000 T (n + 4) 12 [.str m, .str o] = some (r, [.hole, .hole]) ∧
    mcall 100000000 T (n + 4) 11 [.str m, .str o] = some (.lst true (chars (sgs m o sp)), [.hole, .hole]) ∧
    ((∃ u, r = .str u ∧ IsMin (sst m o) (sgoal m o) (sgs m o sp) (ss0 m o) u ∧ u.length ≤ 5000000) ∨ (r = .non ∧ ∀ w, ¬ GoalW (sst m o) (sgoal m o) (sgs m o sp) (ss0 m o) w)) := by
  have hl : (m ++ o).length < 37 := by rw [List.length_append]; omega
  obtain ⟨sp, r, ⟨h1, h2⟩, h3, h4⟩ := covers_ok n (Fw.of hm ho) hl
  have sig : ∀ j, mcall 100000000 T (j + 1) 11 [.str m, .str o] = some (.lst true (chars (sgs m o sp)), [.hole, .hole]) := fun j => by
    obtain ⟨sp', _, q2, q3⟩ := signs_ok j (m := m) (o := o) (by omega) (by omega) gm go
    rw [h2] at q2
    cases q2
    exact q3
  obtain ⟨r', e1, e2⟩ := first_ok (n + 1) (Fw.of hm ho) (sig (n + 2))
  have er : r' = r := by
    rcases h4 with ⟨u, rfl, hu⟩ | ⟨rfl, hn⟩
    · rcases e2 with ⟨v, rfl, hv⟩ | ⟨rfl, hn⟩
      · rw [min_one hu.1 hv]
      · exact absurd hu.1.1 (hn u)
    · rcases e2 with ⟨v, rfl, hv⟩ | ⟨rfl, _⟩
      · exact absurd hv.1 (hn v)
      · rfl
  subst er
  exact ⟨sp, r', h1, h3, e1, sig (n + 3), h4⟩
end Pg
end Mp
set_option maxHeartbeats 0
namespace Mp
namespace Pg
open PySem
/-! ### the three that are written out -/
def mB : List Nat → List Nat → Bool
  | [], w => w.isEmpty
  | s :: m, w => if s = 42 then (List.range (w.length + 1)).any fun i => mB m (w.drop i) else match w with
    | [] => false
    | c :: v => (s == 63 || s == c) && mB m v
theorem mB_iff : ∀ (m w : List Nat), mB m w = true ↔ M m w
  | [], w => by
    rw [mB, M.nil_iff, List.isEmpty_iff]
  | s :: m, w => by
    show (if s = 42 then (List.range (w.length + 1)).any fun i => mB m (w.drop i) else match w with
      | [] => false
      | c :: v => (s == 63 || s == c) && mB m v) = true ↔ _
    by_cases hs : s = 42
    · subst hs
      rw [if_pos rfl, List.any_eq_true, M.star_iff]
      constructor
      · rintro ⟨i, _, h⟩
        exact ⟨w.take i, w.drop i, (List.take_append_drop i w).symm, (mB_iff m _).mp h⟩
      · rintro ⟨u, v, rfl, h⟩
        refine ⟨u.length, List.mem_range.mpr (by rw [List.length_append]; omega), ?_⟩
        rw [List.drop_left]
        exact (mB_iff m v).mpr h
    · rw [if_neg hs, M.lit_iff hs]
      cases w with
      | nil => exact ⟨fun h => (nomatch h), fun ⟨c, v, e, _⟩ => (nomatch e)⟩
      | cons c v =>
        show ((s == 63 || s == c) && mB m v) = true ↔ _
        rw [Bool.and_eq_true, Bool.or_eq_true, beq_iff_eq, beq_iff_eq, mB_iff m v]
        constructor
        · rintro ⟨d, h⟩
          exact ⟨c, v, rfl, d, h⟩
        · rintro ⟨c', v', e, d, h⟩
          cases e
          exact ⟨d, h⟩
theorem M_yes {m w : List Nat} (h : mB m w = true) : M m w := (mB_iff m w).mp h
theorem M_no {m w : List Nat} (h : mB m w = false) : ¬ M m w := fun k => by
  rw [(mB_iff m w).mpr k] at h
  cases h
theorem star_end (w : List Nat) : M [42] w := by
  have := M.star_any [] w [] .nil
  rwa [List.append_nil] at this
abbrev W1 : List Nat := [42, 97, 42, 98, 42, 99, 42]
abbrev O1 : List Nat := [42, 97, 98, 63, 63, 99, 42, 97, 42]
abbrev W2 : List Nat := [42, 97, 98, 42]
abbrev O2 : List Nat := [42, 97, 63, 98, 42]
abbrev W3 : List Nat := [42, 97, 97, 97, 97, 97, 97, 97, 97, 97, 97, 42]
abbrev O3 : List Nat := [42, 97, 97, 97, 97, 97, 42, 97, 97, 97, 97, 97]
theorem lit1 {s : Nat} {m w : List Nat} (h1 : s ≠ 42) (h2 : s ≠ 63) (h : M (s :: m) w) : ∃ v, w = s :: v ∧ M m v := by
  obtain ⟨c, v, rfl, d, k⟩ := (M.lit_iff h1).mp h
  rcases d with d | d
  · exact absurd d h2
  · exact ⟨v, by rw [d], k⟩
theorem cov1 : Cov W1 O1 := fun w k => by
  obtain ⟨u1, v1, e1, k1⟩ := M.star_inv k
  obtain ⟨v2, e2, k2⟩ := lit1 (by decide) (by decide) k1
  obtain ⟨v3, e3, k3⟩ := lit1 (by decide) (by decide) k2
  obtain ⟨c1, v4, e4, _, k4⟩ := (M.lit_iff (s := 63) (by decide)).mp k3
  obtain ⟨c2, v5, e5, _, k5⟩ := (M.lit_iff (s := 63) (by decide)).mp k4
  obtain ⟨v6, e6, _⟩ := lit1 (by decide) (by decide) k5
  subst e6 e5 e4 e3 e2 e1
  exact M.star_any _ u1 _ (.l (by decide) (.s0 (.l (by decide) (.s1 (.s1 (.s0 (.l (by decide) (star_end v6))))))))
theorem a5 {m w : List Nat} (h : M (97 :: 97 :: 97 :: 97 :: 97 :: m) w) : ∃ v, w = 97 :: 97 :: 97 :: 97 :: 97 :: v ∧ M m v := by
  obtain ⟨v1, e1, h1⟩ := lit1 (by decide) (by decide) h
  obtain ⟨v2, e2, h2⟩ := lit1 (by decide) (by decide) h1
  obtain ⟨v3, e3, h3⟩ := lit1 (by decide) (by decide) h2
  obtain ⟨v4, e4, h4⟩ := lit1 (by decide) (by decide) h3
  obtain ⟨v5, e5, h5⟩ := lit1 (by decide) (by decide) h4
  exact ⟨v5, by rw [e1, e2, e3, e4, e5], h5⟩
theorem fw3 : Fw W3 O3 := ⟨by decide, by decide, by decide⟩
theorem sg48 {c : Nat} (h : c ∈ SG) : 48 ≤ c := by
  have : SG.all (fun c => decide (48 ≤ c)) = true := by decide
  exact of_decide_eq_true (List.all_eq_true.mp this c h)
theorem goal_sg {m o : List Nat} {sp : Nat} {w : List Nat} (h : GoalW (sst m o) (sgoal m o) (sgs m o sp) (ss0 m o) w) : ∀ c ∈ w, 48 ≤ c := fun c hc => sg48 (List.mem_filter.mp (h.1 c hc)).1
theorem first3 (n : Nat) : mcall 100000000 T (n + 4) 3 [.str W1, .str O1] = some (.non, [.hole, .hole]) := by
  obtain ⟨sp, r, _, e, h⟩ := covers_ok n (m := W1) (o := O1) (Fw.of (by decide) (by decide)) (by decide)
  rcases h with ⟨u, rfl, hu⟩ | ⟨rfl, _⟩
  · obtain ⟨k1, k2⟩ := (goal_iff (by decide) (by decide) u).mp hu.1.1.2
    exact absurd (cov1 u k1) k2
  · exact e
theorem sp0 {m o : List Nat} {sp : Nat} (h : (SG.filter (q0 m o))[0]? = some sp) (h2 : (m ++ o).contains 48 = false) : sp = 48 := by
  have : SG.filter (q0 m o) = 48 :: (SG.tail).filter (q0 m o) := by
    show List.filter _ (48 :: SG.tail) = _
    rw [List.filter_cons_of_pos (by unfold q0; rw [h2]; rfl)]
  rw [this] at h
  injection h with h
  exact h.symm
theorem told_is {m o u : List Nat} (n : Nat) (hw : Fw m o) (hl : (m ++ o).length < 37) (h48 : (m ++ o).contains 48 = false) (hu : u.all (fun c => q1 m o 48 c && SG.contains c) = true) (k1 : mB o u = true) (k2 : mB m u = false)
    (hmin : ∀ w, (∀ c ∈ w, 48 ≤ c) → M o w → ¬ M m w → ¬ slt w u) : mcall 100000000 T (n + 4) 3 [.str m, .str o] = some (.str u, [.hole, .hole]) := by
  obtain ⟨sp, r, ⟨_, hs⟩, e, h⟩ := covers_ok n hw hl
  have := sp0 hs h48
  subst this
  have gu : GoalW (sst m o) (sgoal m o) (sgs m o 48) (ss0 m o) u := ⟨fun c hc => by
    have z := List.all_eq_true.mp hu c hc
    rw [Bool.and_eq_true] at z
    exact List.mem_filter.mpr ⟨by simpa using z.2, z.1⟩, (goal_iff hw.mb hw.ob u).mpr ⟨M_yes k1, M_no k2⟩⟩
  rcases h with ⟨v, rfl, hv⟩ | ⟨rfl, hn⟩
  · have mu : IsMin (sst m o) (sgoal m o) (sgs m o 48) (ss0 m o) u := ⟨gu, fun w hw' => by
      obtain ⟨q1, q2⟩ := (goal_iff hw.mb hw.ob w).mp hw'.2
      exact hmin w (goal_sg hw') q1 q2⟩
    rw [min_one mu hv.1]
    exact e
  · exact absurd gu (hn u)
theorem len0 {x : List Nat} (h : x.length = 0) : x = [] := List.length_eq_zero_iff.mp h
theorem len1 {x : List Nat} (h : x.length = 1) : ∃ c, x = [c] := by
  match x, h with
  | [c], _ => exact ⟨c, rfl⟩
theorem second3 (n : Nat) : mcall 100000000 T (n + 4) 3 [.str W2, .str O2] = some (.str [97, 48, 98], [.hole, .hole]) := by
  refine told_is n (Fw.of (by decide) (by decide)) (by decide) (by decide) (by decide) (by decide) (by decide) fun w h48 k1 k2 lt => ?_
  obtain ⟨x, v1, e1, j1⟩ := M.star_inv k1
  obtain ⟨v2, e2, j2⟩ := lit1 (by decide) (by decide) j1
  obtain ⟨c, v3, e3, _, j3⟩ := (M.lit_iff (s := 63) (by decide)).mp j2
  obtain ⟨y, e4, _⟩ := lit1 (by decide) (by decide) j3
  subst e4 e3 e2 e1
  have hc : 48 ≤ c := h48 c (by simp)
  rcases lt with lt | ⟨le, lt⟩
  · simp at lt; omega
  · simp at le
    have ex : x = [] := len0 (by omega)
    have ey : y = [] := len0 (by omega)
    subst ex ey
    rcases lt with lt | ⟨_, lt | ⟨_, lt | ⟨_, lt⟩⟩⟩ <;> first | omega | exact lt
theorem third3 (n : Nat) : mcall 100000000 T (n + 4) 3 [.str W3, .str O3] = some (.str [97, 97, 97, 97, 97, 48, 97, 97, 97, 97, 97], [.hole, .hole]) := by
  refine told_is n fw3 (by decide) (by decide) (by decide) (by decide) (by decide) fun w h48 k1 k2 lt => ?_
  obtain ⟨x, v1, e1, j1⟩ := M.star_inv k1
  obtain ⟨v2, e2, j2⟩ := a5 j1
  obtain ⟨y, v3, e3, j3⟩ := M.star_inv j2
  obtain ⟨z, e4, j4⟩ := a5 j3
  rw [M.nil_iff] at j4
  subst j4 e4 e3 e2 e1
  have one : x.length + y.length ≤ 1 := by
    rcases lt with lt | ⟨le, _⟩
    · simp at lt; omega
    · simp at le; omega
  by_cases hx : x.length = 0
  · have ex := len0 hx
    subst ex
    by_cases hy : y.length = 0
    · have ey := len0 hy
      subst ey
      exact k2 (M_yes (by decide))
    · obtain ⟨c, rfl⟩ := len1 (show y.length = 1 by omega)
      have hc : 48 ≤ c := h48 c (by simp)
      rcases lt with lt | ⟨_, lt⟩
      · simp at lt
      · simp only [List.nil_append, List.cons_append, lexLt, Nat.lt_irrefl, false_or, true_and, and_false, or_false] at lt
        omega
  · obtain ⟨c, rfl⟩ := len1 (show x.length = 1 by omega)
    have ey : y = [] := len0 (by simp at one; omega)
    subst ey
    exact k2 (.s1 (.s0 (by
      have : M (97 :: 97 :: 97 :: 97 :: 97 :: 97 :: 97 :: 97 :: 97 :: 97 :: [42]) (97 :: 97 :: 97 :: 97 :: 97 :: 97 :: 97 :: 97 :: 97 :: 97 :: []) := M_yes (by decide)
      exact this)))
end Pg
end Mp
set_option maxHeartbeats 0
namespace Mp
namespace Pg
open PySem
structure Okm (k : Nat) (m : List Nat) : Prop where
  len : m.length ≤ k
  mg : Mg m
theorem Okm.le {k k' : Nat} {m : List Nat} (h : Okm k m) (hk : k ≤ k') : Okm k' m := ⟨Nat.le_trans h.len hk, h.mg⟩
theorem Okm.mch {k : Nat} {m : List Nat} (hl : m.length ≤ k) (h : ∀ s ∈ m, mch s) : Okm k m := ⟨hl, fun c hc => by
  have := h c hc
  unfold Mp.Pg.mch at this
  simp at this
  rcases this with rfl | rfl | rfl | rfl | rfl | rfl <;> simp⟩
theorem Mg.app {a b : List Nat} (h : Mg a) (h' : Mg b) : Mg (a ++ b) := fun c hc => (List.mem_append.mp hc).elim (h c) (h' c)
theorem Mg.take {a : List Nat} (k : Nat) (h : Mg a) : Mg (a.take k) := fun c hc => h c (List.mem_of_mem_take hc)
theorem Mg.drop {a : List Nat} (k : Nat) (h : Mg a) : Mg (a.drop k) := fun c hc => h c (List.mem_of_mem_drop hc)
theorem mg1 {c : Nat} (h : c = 42 ∨ c = 63 ∨ c ∈ SG) : Mg [c] := fun x hx => by
  rw [List.mem_singleton] at hx
  rw [hx]; exact h
theorem bigL {x : List Nat} {k : Nat} (h : x.length ≤ k) (hk : k ≤ 1000) : x.length ≤ bigLine := big_of (Nat.le_trans h hk)
theorem five (x y z u v : D) : decide (([x, y, z, u, v] : List D).length ≤ bigLine) = true := decide_eq_true (show 5 ≤ bigLine by unfold bigLine; omega)
theorem bent_ok (n : Nat) {a b c : Int} {room : Int} {m : List Nat} (hm : Okm 6 m) (hr : 0 ≤ room) (h : Dok b c (room + 10)) :
    ∃ m' a' c', Okm 7 m' ∧ Dok b c' room ∧ mcall 100000000 T (n + 2) 8 [Dk a b c, .str m] = some (.str m', [Dk a' b c', .hole]) := by
  have hml := hm.len
  obtain ⟨r, a1, c1, r0, r1, d1, e1⟩ := pick n (a := a) (many := (m.length : Int) + 1) (room := room + 5) (h := h.le (by omega)) (by omega) (by omega) (by omega)
  obtain ⟨k, rfl⟩ : ∃ k : Nat, r = k := ⟨r.toNat, by omega⟩
  obtain ⟨s, a2, c2, s0, s1, d2, e2⟩ := pick n (a := a1) (many := 5) (room := room) (h := d1.le (by omega)) (by decide) (by decide) hr
  have bl := bigL hml (by decide)
  have t1 : opV (.sl false true) [.str m, .int k] = some (.str (m.take k)) := v_slHS bl
  have t2 : opV (.sl true false) [.str m, .int k] = some (.str (m.drop k)) := v_slLS bl
  have t3 : opV (.sl true false) [.str m, .int ((k : Int) + 1)] = some (.str (m.drop (k + 1))) := by
    have := v_slLS (k := k + 1) bl
    rw [show ((k + 1 : Nat) : Int) = (k : Int) + 1 by omega] at this
    exact this
  have lt : (m.take k).length ≤ 6 := by rw [List.length_take]; omega
  have ld : (m.drop k).length ≤ 6 - k := by rw [List.length_drop]; omega
  have ld1 : (m.drop (k + 1)).length ≤ 6 - (k + 1) := by rw [List.length_drop]; omega
  have lk : (m.take k).length ≤ k := by rw [List.length_take]; omega
  have kl : k ≤ 6 := by omega
  have gt := hm.mg.take k
  have gd := hm.mg.drop k
  have gd1 := hm.mg.drop (k + 1)
  generalize hT : m.take k = P at *
  generalize hD : m.drop k = S at *
  generalize hD1 : m.drop (k + 1) = S1 at *
  have A : ∀ {x y : List Nat}, x.length ≤ 20 → y.length ≤ 20 → opV .add [.str x, .str y] = some (.str (x ++ y)) := fun {x y} h1 h2 => v_addS (by unfold bigLine; omega)
  have q1 : opV .add [.str P, .str [42]] = some (.str (P ++ [42])) := A (by omega) (by decide)
  have q2 : opV .add [.str (P ++ [42]), .str S] = some (.str (P ++ [42] ++ S)) := A (by rw [List.length_append]; simp; omega) (by omega)
  have q3 : opV .add [.str P, .str [63]] = some (.str (P ++ [63])) := A (by omega) (by decide)
  have q4 : opV .add [.str (P ++ [63]), .str S1] = some (.str (P ++ [63] ++ S1)) := A (by rw [List.length_append]; simp; omega) (by omega)
  have q5 : opV .add [.str P, .str S1] = some (.str (P ++ S1)) := A (by omega) (by omega)
  have q6 : opV .add [.str m, .str [97]] = some (.str (m ++ [97])) := A (by omega) (by decide)
  have o1 : Okm 7 (P ++ [42] ++ S) := ⟨by simp only [List.length_append, List.length_singleton]; omega, (gt.app (mg1 (.inl rfl))).app gd⟩
  have o2 : Okm 7 (P ++ [63] ++ S1) := ⟨by simp only [List.length_append, List.length_singleton]; omega, (gt.app (mg1 (.inr (.inl rfl)))).app gd1⟩
  have o3 : Okm 7 (P ++ S1) := ⟨by rw [List.length_append]; omega, gt.app gd1⟩
  have o4 : Okm 7 (m ++ [97]) := ⟨by rw [List.length_append, List.length_singleton]; omega, hm.mg.app (mg1 (.inr (.inr (by decide))))⟩
  have o5 : Okm 7 [42] := ⟨by decide, mg1 (.inl rfl)⟩
  generalize P ++ [42] ++ S = x1 at *
  generalize P ++ [63] ++ S1 = x2 at *
  generalize P ++ S1 = x3 at *
  generalize m ++ [97] = x4 at *
  obtain ⟨t, tm, et⟩ := ix_any (o := true) (xs := [.str x1, .str x2, .str x3, .str x4, .str [42]]) rfl s0 s1
  obtain ⟨f, rfl, hf⟩ : ∃ f, t = .str f ∧ Okm 7 f := by
    simp only [List.mem_cons, List.not_mem_nil, or_false] at tm
    rcases tm with rfl | rfl | rfl | rfl | rfl
    · exact ⟨_, rfl, o1⟩
    · exact ⟨_, rfl, o2⟩
    · exact ⟨_, rfl, o3⟩
    · exact ⟨_, rfl, o4⟩
    · exact ⟨_, rfl, o5⟩
  have go : ∀ (z : List Nat) (y1 y4 : D), mexs (mcall 100000000 T (n + 1)) 100000000 [0] (.cons s8_3 .nil) [Dk a2 b c2, .str m, .int k, .lst true [.str x1, .str x2, .str x3, .str x4, .str [42]], .str f] = .ok (.ret (.str z)) [Dk a2 b c2, y1, .int k, .lst true [.str x1, .str x2, .str x3, .str x4, .str [42]], y4] →
      mcall 100000000 T (n + 2) 8 [Dk a b c, .str m] = some (.str z, [Dk a2 b c2, .hole]) := fun z y1 y4 hz => by
    refine run_ret (m := m8) (e := [Dk a2 b c2, y1, .int k, .lst true [.str x1, .str x2, .str x3, .str x4, .str [42]], y4]) rfl rfl ?_ rfl
    show mexs (mcall 100000000 T (n + 1)) 100000000 [0] b8_0 [Dk a b c, .str m, .hole, .hole, .hole] = _
    unfold b8_0
    rw [seq_nx (e1 := [Dk a1 b c1, .str m, .int k, .hole, .hole]) (by unfold s8_0; simp only [mex, mev, mevs, mit, bind_ok, of_some, fix, isHole, truthR, truth, clean, cleans, whole, wholes, frz, frzs, lend, back, store, augSem, isOwn, reduceIte, Bool.false_eq_true, Bool.and_true, Bool.true_and, Bool.and_self, Bool.and_false, Bool.false_and, decide_true, decide_false, List.contains_nil, List.elem_nil, Option.map_some, Bool.not_true, Bool.not_false, g0, g1, g2, g3, g4, g5, g6, g7, g8, g9, g10, g11, g12, g13, st0, st1, st2, st3, st4, st5, st6, st7, st8, st9, st10, st11, st12, st13, v_addI, v_subI, v_ltI, v_leI, v_gtI, v_geI, v_eqI, v_neI, v_eqS, v_neS, v_eqB, v_neB, v_lenL, v_lenT, v_lenS (x := m) bl, e1]; rfl)]
    rw [seq_nx (e1 := [Dk a1 b c1, .str m, .int k, .lst true [.str x1, .str x2, .str x3, .str x4, .str [42]], .hole]) (by
      unfold s8_1
      simp only [mex, mev, mevs, mit, bind_ok, of_some, fix, isHole, truthR, truth, clean, cleans, whole, wholes, frz, frzs, lend, back, store, augSem, isOwn, reduceIte, Bool.false_eq_true, Bool.and_true, Bool.true_and, Bool.and_self, Bool.and_false, Bool.false_and, decide_true, decide_false, List.contains_nil, List.elem_nil, Option.map_some, Bool.not_true, Bool.not_false, g0, g1, g2, g3, g4, g5, g6, g7, g8, g9, g10, g11, g12, g13, st0, st1, st2, st3, st4, st5, st6, st7, st8, st9, st10, st11, st12, st13, v_addI, v_subI, v_ltI, v_leI, v_gtI, v_geI, v_eqI, v_neI, v_eqS, v_neS, v_eqB, v_neB, v_lenL, v_lenT, t1, t2, t3, q1, q2, q3, q4, q5, q6, five, if_true]
      rfl)]
    rw [seq_nx (e1 := [Dk a2 b c2, .str m, .int k, .lst true [.str x1, .str x2, .str x3, .str x4, .str [42]], .str f]) (by
      unfold s8_2
      simp only [mex, mev, mevs, mit, bind_ok, of_some, fix, isHole, truthR, truth, clean, cleans, whole, wholes, frz, frzs, lend, back, store, augSem, isOwn, reduceIte, Bool.false_eq_true, Bool.and_true, Bool.true_and, Bool.and_self, Bool.and_false, Bool.false_and, decide_true, decide_false, List.contains_nil, List.elem_nil, Option.map_some, Bool.not_true, Bool.not_false, g0, g1, g2, g3, g4, g5, g6, g7, g8, g9, g10, g11, g12, g13, st0, st1, st2, st3, st4, st5, st6, st7, st8, st9, st10, st11, st12, st13, v_addI, v_subI, v_ltI, v_leI, v_gtI, v_geI, v_eqI, v_neI, v_eqS, v_neS, v_eqB, v_neB, v_lenL, v_lenT, e2]
      show (R.of (opV .ix [.lst true [.str x1, .str x2, .str x3, .str x4, .str [42]], .int s]) _).bind _ = _
      rw [et]
      rfl)]
    exact hz
  by_cases hf0 : f = []
  · refine ⟨m, a2, c2, hm.le (by decide), d2, go m .hole (.str f) ?_⟩
    unfold s8_3
    refine seq_ret ?_
    simp only [mex, mev, mevs, mit, bind_ok, of_some, fix, isHole, truthR, truth, clean, cleans, whole, wholes, frz, frzs, lend, back, store, augSem, isOwn, reduceIte, Bool.false_eq_true, Bool.and_true, Bool.true_and, Bool.and_self, Bool.and_false, Bool.false_and, decide_true, decide_false, List.contains_nil, List.elem_nil, Option.map_some, Bool.not_true, Bool.not_false, g0, g1, g2, g3, g4, g5, g6, g7, g8, g9, g10, g11, g12, g13, st0, st1, st2, st3, st4, st5, st6, st7, st8, st9, st10, st11, st12, st13, v_addI, v_subI, v_ltI, v_leI, v_gtI, v_geI, v_eqI, v_neI, v_eqS, v_neS, v_eqB, v_neB, v_lenL, v_lenT, decide_eq_true hf0]
  · refine ⟨f, a2, c2, hf, d2, go f (.str m) .hole ?_⟩
    unfold s8_3
    refine seq_ret ?_
    simp only [mex, mev, mevs, mit, bind_ok, of_some, fix, isHole, truthR, truth, clean, cleans, whole, wholes, frz, frzs, lend, back, store, augSem, isOwn, reduceIte, Bool.false_eq_true, Bool.and_true, Bool.true_and, Bool.and_self, Bool.and_false, Bool.false_and, decide_true, decide_false, List.contains_nil, List.elem_nil, Option.map_some, Bool.not_true, Bool.not_false, g0, g1, g2, g3, g4, g5, g6, g7, g8, g9, g10, g11, g12, g13, st0, st1, st2, st3, st4, st5, st6, st7, st8, st9, st10, st11, st12, st13, v_addI, v_subI, v_ltI, v_leI, v_gtI, v_geI, v_eqI, v_neI, v_eqS, v_neS, v_eqB, v_neB, v_lenL, v_lenT, decide_eq_false hf0]
/-! ### a word ahead -/
theorem lt_lex : ∀ {x y : List Nat}, x.length = y.length → (x < y ↔ lexLt x y)
  | [], [], _ => ⟨fun h => absurd h (List.lt_irrefl _), fun h => h.elim⟩
  | [], _ :: _, h => by simp at h
  | _ :: _, [], h => by simp at h
  | a :: x, b :: y, h => by
    rw [List.cons_lt_cons_iff, lt_lex (x := x) (y := y) (by simpa using h)]
    rfl
theorem pair_slt {x y : List Nat} : pairLt (x.length : Int) x (y.length : Int) y = true ↔ slt x y := by
  unfold pairLt slt
  rw [Bool.or_eq_true, Bool.and_eq_true, decide_eq_true_iff, decide_eq_true_iff, decide_eq_true_iff]
  constructor
  · rintro (h | ⟨h, k⟩)
    · exact .inl (by omega)
    · have e : x.length = y.length := by omega
      exact .inr ⟨e, (lt_lex e).mp k⟩
  · rintro (h | ⟨h, k⟩)
    · exact .inl (by omega)
    · exact .inr ⟨by omega, (lt_lex h).mpr k⟩
theorem v_gePair {i j : Int} {x y : List Nat} : opV .ge [.tup [.int i, .str x], .tup [.int j, .str y]] = some (.bl (!pairLt i x j y)) := rfl
/-- what was told -/
def Told (m o sg : List Nat) (r : D) : Prop := (∃ u, r = .str u ∧ IsMin (sst m o) (sgoal m o) sg (ss0 m o) u ∧ u.length ≤ 5000000) ∨ (r = .non ∧ ∀ w, ¬ GoalW (sst m o) (sgoal m o) sg (ss0 m o) w)
abbrev clA : CallF := mcall 100000000 T 9
structure Pr (m o sg : List Nat) (r : D) : Prop where
  om : Okm 9 m
  oo : Okm 9 o
  sgs : clA 11 [.str m, .str o] = some (.lst true (chars sg), [.hole, .hole])
  few : sg.length ≤ 37
  told : Told m o sg r
theorem fitL {m w : List Nat} (h : w.length ≤ 6000000) : clA 7 [.str m, .str w] = some (.bl (fitB m w), [.hole, .hole]) := lawfits_ok 8 h
theorem Pr.goal {m o sg : List Nat} {r : D} (p : Pr m o sg r) {w : List Nat} (hw : ∀ c ∈ w, c ∈ sg) : GoalW (sst m o) (sgoal m o) sg (ss0 m o) w ↔ fitB o w = true ∧ fitB m w = false := by
  have hm := p.om.len
  have ho := p.oo.len
  unfold GoalW
  rw [goal_iff (by omega) (by omega), fitB_iff]
  constructor
  · rintro ⟨_, h1, h2⟩
    exact ⟨h1, Bool.eq_false_iff.mpr fun z => h2 (fitB_iff.mp z)⟩
  · rintro ⟨h1, h2⟩
    exact ⟨hw, h1, fun z => by rw [fitB_iff.mpr z] at h2; cases h2⟩
theorem okd (m o : List Nat) (r : D) {S cell dk x3 x4 x8 x9 x10 x11 x12 : D} {sg : List Nat} (p : Pr m o sg r) : mex clA 100000000 [] s13_11 [S, cell, dk, x3, x4, .str m, .str o, r, x8, x9, x10, x11, x12] = .ok .nx [S, cell, dk, x3, x4, .str m, .str o, r, x8, x9, x10, x11, x12] := by
  unfold s13_11 b13_7
  refine (ife_f ?_).trans seq_nil
  rcases p.told with ⟨u, rfl, hu, hl⟩ | ⟨rfl, _⟩
  · obtain ⟨g1, g2⟩ := (p.goal hu.1.1).mp hu.1
    have f1 := fitL (m := m) (w := u) (by omega)
    have f2 := fitL (m := o) (w := u) (by omega)
    rw [g2] at f1
    rw [g1] at f2
    have nn : opV .notN [.str u] = some (.bl true) := rfl
    simp only [mex, mev, mevs, mit, bind_ok, of_some, fix, isHole, truthR, truth, clean, cleans, whole, wholes, frz, frzs, lend, back, store, augSem, isOwn, reduceIte, Bool.false_eq_true, Bool.and_true, Bool.true_and, Bool.and_self, Bool.and_false, Bool.false_and, decide_true, decide_false, List.contains_nil, List.elem_nil, Option.map_some, Bool.not_true, Bool.not_false, g0, g1, g2, g3, g4, g5, g6, g7, g8, g9, g10, g11, g12, g13, st0, st1, st2, st3, st4, st5, st6, st7, st8, st9, st10, st11, st12, st13, v_addI, v_subI, v_ltI, v_leI, v_gtI, v_geI, v_eqI, v_neI, v_eqS, v_neS, v_eqB, v_neB, v_lenL, v_lenT, nn, f1, f2]
  · have nn : opV .notN [.non] = some (.bl false) := rfl
    simp only [mex, mev, mevs, mit, bind_ok, of_some, fix, isHole, truthR, truth, clean, cleans, whole, wholes, frz, frzs, lend, back, store, augSem, isOwn, reduceIte, Bool.false_eq_true, Bool.and_true, Bool.true_and, Bool.and_self, Bool.and_false, Bool.false_and, decide_true, decide_false, List.contains_nil, List.elem_nil, Option.map_some, Bool.not_true, Bool.not_false, g0, g1, g2, g3, g4, g5, g6, g7, g8, g9, g10, g11, g12, g13, st0, st1, st2, st3, st4, st5, st6, st7, st8, st9, st10, st11, st12, st13, v_addI, v_subI, v_ltI, v_leI, v_gtI, v_geI, v_eqI, v_neI, v_eqS, v_neS, v_eqB, v_neB, v_lenL, v_lenT, nn]
end Pg
end Mp
set_option maxHeartbeats 0
namespace Mp
namespace Pg
open PySem
abbrev sD (ws : List (List Nat)) : List D := ws.map D.str
theorem cleans_sD : ∀ ws : List (List Nat), cleans (sD ws) = true
  | [] => rfl
  | w :: r => by show (clean (.str w) && cleans (sD r)) = true; rw [cleans_sD r]; rfl
theorem wholes_sD : ∀ ws : List (List Nat), wholes (sD ws) = true
  | [] => rfl
  | w :: r => by show (whole (.str w) && wholes (sD r)) = true; rw [wholes_sD r]; rfl
theorem frzs_sD : ∀ ws : List (List Nat), frzs (sD ws) = sD ws
  | [] => rfl
  | w :: r => by show frz (.str w) :: frzs (sD r) = _; rw [frzs_sD r]; rfl
theorem comp_all {own : List Nat} {E : Env} {cf : Env → R Bool} {ef : Env → R D} {tg : Tg} {g : Nat → D} : ∀ l : List Nat, (∀ k ∈ l, turnR own tg cf ef (.str [k]) E = .ok (some (g k)) E) → compL (turnR own tg cf ef) (chars l) E = .ok (l.map g) E
  | [], _ => rfl
  | k :: l, h => by
    show compL _ (.str [k] :: chars l) E = _
    rw [compL, h k (List.mem_cons_self ..), bind_ok, comp_all l fun x hx => h x (List.mem_cons_of_mem _ hx), bind_ok]
    rfl
section
variable {m o sg : List Nat} {r : D} {S cell dk x3 x4 x8 x9 : D}
abbrev Ew (m o : List Nat) (r S cell dk x3 x4 x8 x9 : D) (acc : List (List Nat)) (x11 : D) : Env := [S, cell, dk, x3, x4, .str m, .str o, r, x8, x9, .lst true (sD acc), x11, .hole]
theorem more_ok (p : Pr m o sg r) {w : List Nat} {acc : List (List Nat)} (hl : w.length ≤ 10) (ha : acc.length ≤ 10000) :
    mex clA 100000000 [] s13_18 (Ew m o r S cell dk x3 x4 x8 x9 acc (.str w)) = .ok .nx (Ew m o r S cell dk x3 x4 x8 x9 (acc ++ sg.map fun c => w ++ [c]) (.str w)) := by
  unfold s13_18
  have few := p.few
  have hb : (sg.map fun c => D.str (w ++ [c])).length ≤ bigLine := by rw [List.length_map]; exact big_of (by omega)
  have lc : mev clA (.lc [12] (.nm 12) (.seq (.call 11 (.cons (.cp 5) (.cons (.cp 6) .nil)))) (.c (.bl true)) (.op .add (.cons (.bw 11) (.cons (.bw 12) .nil)))) (Ew m o r S cell dk x3 x4 x8 x9 acc (.str w)) = .ok (.lst true (sg.map fun c => D.str (w ++ [c]))) (Ew m o r S cell dk x3 x4 x8 x9 acc (.str w)) := by
    have hit : mit clA (.seq (.call 11 (.cons (.cp 5) (.cons (.cp 6) .nil)))) (Ew m o r S cell dk x3 x4 x8 x9 acc (.str w)) = .ok (chars sg) (Ew m o r S cell dk x3 x4 x8 x9 acc (.str w)) := by
      have sgs := p.sgs
      simp only [mit, mev, mevs, bind_ok, g5, g6, clean, if_true, sgs, lend, back, wholes_chars, frzs_chars]
    rw [mev, hit, bind_ok]
    show ((compL (turnR [12] (.nm 12) _ _) (chars sg) (Ew m o r S cell dk x3 x4 x8 x9 acc (.str w))).bind fun ds e6 => if ds.length ≤ bigLine then R.ok (D.lst true ds) (putE (Ew m o r S cell dk x3 x4 x8 x9 acc (.str w)) e6 [12]) else .no) = _
    rw [comp_all sg (g := fun c => D.str (w ++ [c])) fun k _ => ?_, bind_ok, if_pos hb]
    · rfl
    · unfold turnR
      have ad : opV .add [.str w, .str [k]] = some (.str (w ++ [k])) := v_addS (by simp only [List.length_singleton]; unfold bigLine; omega)
      rw [show store [] (.nm 12) (.str [k]) (Ew m o r S cell dk x3 x4 x8 x9 acc (.str w)) = some [S, cell, dk, x3, x4, .str m, .str o, r, x8, x9, .lst true (sD acc), .str w, .str [k]] from rfl, of_some, bind_ok]
      have ev : mev clA (.op .add (.cons (.bw 11) (.cons (.bw 12) .nil))) [S, cell, dk, x3, x4, .str m, .str o, r, x8, x9, .lst true (sD acc), .str w, .str [k]] = .ok (.str (w ++ [k])) [S, cell, dk, x3, x4, .str m, .str o, r, x8, x9, .lst true (sD acc), .str w, .str [k]] := by
        simp only [mex, mev, mevs, mit, bind_ok, of_some, fix, isHole, truthR, truth, clean, cleans, whole, wholes, frz, frzs, lend, back, store, augSem, isOwn, reduceIte, Bool.false_eq_true, Bool.and_true, Bool.true_and, Bool.and_self, Bool.and_false, Bool.false_and, decide_true, decide_false, List.contains_nil, List.elem_nil, Option.map_some, Bool.not_true, Bool.not_false, g0, g1, g2, g3, g4, g5, g6, g7, g8, g9, g10, g11, g12, g13, st0, st1, st2, st3, st4, st5, st6, st7, st8, st9, st10, st11, st12, st13, v_addI, v_subI, v_ltI, v_leI, v_gtI, v_geI, v_eqI, v_neI, v_eqS, v_neS, v_eqB, v_neB, v_lenL, v_lenT, ad]
      show R.bind (mev clA (.op .add (.cons (.bw 11) (.cons (.bw 12) .nil))) [S, cell, dk, x3, x4, .str m, .str o, r, x8, x9, .lst true (sD acc), .str w, .str [k]]) _ = _
      rw [ev]
      rfl
  have add : opV .add [.lst true (sD acc), .lst true (sg.map fun c => D.str (w ++ [c]))] = some (.lst true (sD (acc ++ sg.map fun c => w ++ [c]))) := by
    have e : (sg.map fun c => D.str (w ++ [c])) = sD (sg.map fun c => w ++ [c]) := by unfold sD; rw [List.map_map]; rfl
    rw [e, v_addL (cleans_sD _) (cleans_sD _)]
    · unfold sD
      rw [List.map_append]
    · rw [List.length_map, List.length_map, List.length_map]
      unfold bigLine
      omega
  rw [mex, mev, mevs, mev]
  show R.bind (R.bind (R.bind (mevs clA (.cons (.lc [12] (.nm 12) (.seq (.call 11 (.cons (.cp 5) (.cons (.cp 6) .nil)))) (.c (.bl true)) (.op .add (.cons (.bw 11) (.cons (.bw 12) .nil)))) .nil) (Ew m o r S cell dk x3 x4 x8 x9 acc (.str w))) _) _) _ = _
  rw [mevs, lc, bind_ok, mevs, bind_ok, bind_ok, bind_ok]
  show R.bind (R.of (opV .add [.lst true (sD acc), .lst true (sg.map fun c => D.str (w ++ [c]))]) _) _ = _
  rw [add]
  rfl
theorem fit_ok (p : Pr m o sg r) {w : List Nat} {acc : List (List Nat)} (hl : w.length ≤ 10) (h : ¬ (fitB o w = true ∧ fitB m w = false)) : mex clA 100000000 [] s13_17 (Ew m o r S cell dk x3 x4 x8 x9 acc (.str w)) = .ok .nx (Ew m o r S cell dk x3 x4 x8 x9 acc (.str w)) := by
  unfold s13_17 b13_11
  refine (ife_f ?_).trans seq_nil
  have f1 := fitL (m := m) (w := w) (by omega)
  have f2 := fitL (m := o) (w := w) (by omega)
  cases h2 : fitB o w with
  | false =>
    rw [h2] at f2
    simp only [mex, mev, mevs, mit, bind_ok, of_some, fix, isHole, truthR, truth, clean, cleans, whole, wholes, frz, frzs, lend, back, store, augSem, isOwn, reduceIte, Bool.false_eq_true, Bool.and_true, Bool.true_and, Bool.and_self, Bool.and_false, Bool.false_and, decide_true, decide_false, List.contains_nil, List.elem_nil, Option.map_some, Bool.not_true, Bool.not_false, g0, g1, g2, g3, g4, g5, g6, g7, g8, g9, g10, g11, g12, g13, st0, st1, st2, st3, st4, st5, st6, st7, st8, st9, st10, st11, st12, st13, v_addI, v_subI, v_ltI, v_leI, v_gtI, v_geI, v_eqI, v_neI, v_eqS, v_neS, v_eqB, v_neB, v_lenL, v_lenT, f2]
  | true =>
    cases h1 : fitB m w with
    | false => exact absurd ⟨h2, h1⟩ h
    | true =>
      rw [h2] at f2
      rw [h1] at f1
      simp only [mex, mev, mevs, mit, bind_ok, of_some, fix, isHole, truthR, truth, clean, cleans, whole, wholes, frz, frzs, lend, back, store, augSem, isOwn, reduceIte, Bool.false_eq_true, Bool.and_true, Bool.true_and, Bool.and_self, Bool.and_false, Bool.false_and, decide_true, decide_false, List.contains_nil, List.elem_nil, Option.map_some, Bool.not_true, Bool.not_false, g0, g1, g2, g3, g4, g5, g6, g7, g8, g9, g10, g11, g12, g13, st0, st1, st2, st3, st4, st5, st6, st7, st8, st9, st10, st11, st12, st13, v_addI, v_subI, v_ltI, v_leI, v_gtI, v_geI, v_eqI, v_neI, v_eqS, v_neS, v_eqB, v_neB, v_lenL, v_lenT, f2, f1]
theorem word_ok (p : Pr m o sg r) {w : List Nat} (hw : ∀ c ∈ w, c ∈ sg) (hl : w.length ≤ 10) {acc : List (List Nat)} (ha : acc.length ≤ 10000) :
    ∃ out acc', (out = .nx ∨ out = .cnt) ∧ (acc' = acc ∨ acc' = acc ++ sg.map fun c => w ++ [c]) ∧ mexs clA 100000000 [] b13_12 (Ew m o r S cell dk x3 x4 x8 x9 acc (.str w)) = .ok out (Ew m o r S cell dk x3 x4 x8 x9 acc' (.str w)) := by
  have go : ¬ (fitB o w = true ∧ fitB m w = false) → mex clA 100000000 [] s13_15 (Ew m o r S cell dk x3 x4 x8 x9 acc (.str w)) = .ok .nx (Ew m o r S cell dk x3 x4 x8 x9 acc (.str w)) →
      ∃ out acc', (out = .nx ∨ out = .cnt) ∧ (acc' = acc ∨ acc' = acc ++ sg.map fun c => w ++ [c]) ∧ mexs clA 100000000 [] b13_12 (Ew m o r S cell dk x3 x4 x8 x9 acc (.str w)) = .ok out (Ew m o r S cell dk x3 x4 x8 x9 acc' (.str w)) := fun h1 h2 => by
    refine ⟨.nx, _, .inl rfl, .inr rfl, ?_⟩
    unfold b13_12
    rw [seq_nx h2, seq_nx (fit_ok p hl h1)]
    exact (seq_nx (more_ok p hl ha)).trans seq_nil
  have lw := v_lenS (x := w) (big_of (by omega))
  rcases p.told with ⟨u, rfl, hu, hul⟩ | ⟨rfl, hn⟩
  · have lu := v_lenS (x := u) (bigN (by omega))
    have nn : opV .notN [.str u] = some (.bl true) := rfl
    have ge := v_gePair (i := w.length) (x := w) (j := u.length) (y := u)
    cases hp : pairLt (w.length : Int) w (u.length : Int) u with
    | true =>
      refine go (fun h => hu.2 w ((p.goal hw).mpr h) (pair_slt.mp hp)) ?_
      unfold s13_15 b13_9
      refine (ife_f ?_).trans seq_nil
      rw [hp] at ge
      generalize (w.length : Int) = wl at lw ge
      generalize (u.length : Int) = ul at lu ge
      simp only [mex, mev, mevs, mit, bind_ok, of_some, fix, isHole, truthR, truth, clean, cleans, whole, wholes, frz, frzs, lend, back, store, augSem, isOwn, reduceIte, Bool.false_eq_true, Bool.and_true, Bool.true_and, Bool.and_self, Bool.and_false, Bool.false_and, decide_true, decide_false, List.contains_nil, List.elem_nil, Option.map_some, Bool.not_true, Bool.not_false, g0, g1, g2, g3, g4, g5, g6, g7, g8, g9, g10, g11, g12, g13, st0, st1, st2, st3, st4, st5, st6, st7, st8, st9, st10, st11, st12, st13, v_addI, v_subI, v_ltI, v_leI, v_gtI, v_geI, v_eqI, v_neI, v_eqS, v_neS, v_eqB, v_neB, v_lenL, v_lenT, nn, lw, lu, two, if_true, ge]
    | false =>
      refine ⟨.cnt, acc, .inr rfl, .inl rfl, ?_⟩
      have cnt : mex clA 100000000 [] s13_15 (Ew m o (.str u) S cell dk x3 x4 x8 x9 acc (.str w)) = .ok .cnt (Ew m o (.str u) S cell dk x3 x4 x8 x9 acc (.str w)) := by
        unfold s13_15
        rw [ife_t (e1 := Ew m o (.str u) S cell dk x3 x4 x8 x9 acc (.str w)) (by
          rw [hp] at ge
          generalize (w.length : Int) = wl at lw ge
          generalize (u.length : Int) = ul at lu ge
          simp only [mex, mev, mevs, mit, bind_ok, of_some, fix, isHole, truthR, truth, clean, cleans, whole, wholes, frz, frzs, lend, back, store, augSem, isOwn, reduceIte, Bool.false_eq_true, Bool.and_true, Bool.true_and, Bool.and_self, Bool.and_false, Bool.false_and, decide_true, decide_false, List.contains_nil, List.elem_nil, Option.map_some, Bool.not_true, Bool.not_false, g0, g1, g2, g3, g4, g5, g6, g7, g8, g9, g10, g11, g12, g13, st0, st1, st2, st3, st4, st5, st6, st7, st8, st9, st10, st11, st12, st13, v_addI, v_subI, v_ltI, v_leI, v_gtI, v_geI, v_eqI, v_neI, v_eqS, v_neS, v_eqB, v_neB, v_lenL, v_lenT, nn, lw, lu, two, if_true, ge])]
        rfl
      unfold b13_12
      rw [mexs, cnt]
      rfl
  · refine go (fun h => hn w ((p.goal hw).mpr h)) ?_
    unfold s13_15 b13_9
    refine (ife_f ?_).trans seq_nil
    have nn : opV .notN [.non] = some (.bl false) := rfl
    simp only [mex, mev, mevs, mit, bind_ok, of_some, fix, isHole, truthR, truth, clean, cleans, whole, wholes, frz, frzs, lend, back, store, augSem, isOwn, reduceIte, Bool.false_eq_true, Bool.and_true, Bool.true_and, Bool.and_self, Bool.and_false, Bool.false_and, decide_true, decide_false, List.contains_nil, List.elem_nil, Option.map_some, Bool.not_true, Bool.not_false, g0, g1, g2, g3, g4, g5, g6, g7, g8, g9, g10, g11, g12, g13, st0, st1, st2, st3, st4, st5, st6, st7, st8, st9, st10, st11, st12, st13, v_addI, v_subI, v_ltI, v_leI, v_gtI, v_geI, v_eqI, v_neI, v_eqS, v_neS, v_eqB, v_neB, v_lenL, v_lenT, nn]
theorem for_w (p : Pr m o sg r) : ∀ (ws acc : List (List Nat)) (x11 : D), (∀ w ∈ ws, (∀ c ∈ w, c ∈ sg) ∧ w.length ≤ 10) → acc.length + ws.length * 37 ≤ 9000 →
    ∃ acc' x11', (∀ w ∈ acc', w ∈ acc ∨ ∃ v ∈ ws, ∃ c ∈ sg, w = v ++ [c]) ∧ acc'.length ≤ acc.length + ws.length * 37 ∧
      forL (fun x e2 => (R.of (store [] (.nm 11) x e2) e2).bind fun e3 _ => mexs clA 100000000 [] b13_12 e3) (sD ws) (Ew m o r S cell dk x3 x4 x8 x9 acc x11) = .ok .nx (Ew m o r S cell dk x3 x4 x8 x9 acc' x11')
  | [], acc, x11, _, _ => ⟨acc, x11, fun w h => .inl h, by simp, rfl⟩
  | w :: ws, acc, x11, hw, hl => by
    rw [List.length_cons] at hl
    obtain ⟨w1, w2⟩ := hw w (List.mem_cons_self ..)
    obtain ⟨out, acc1, h1, h2, h3⟩ := word_ok (S := S) (cell := cell) (dk := dk) (x3 := x3) (x4 := x4) (x8 := x8) (x9 := x9) p w1 w2 (acc := acc) (by omega)
    have few := p.few
    have al : acc1.length ≤ acc.length + 37 := by
      rcases h2 with rfl | rfl
      · omega
      · rw [List.length_append, List.length_map]; omega
    obtain ⟨acc', x11', q1, q2, q3⟩ := for_w p ws acc1 (.str w) (fun v hv => hw v (List.mem_cons_of_mem _ hv)) (by omega)
    refine ⟨acc', x11', fun v hv => ?_, by rw [List.length_cons]; omega, ?_⟩
    · rcases q1 v hv with h | ⟨x, hx, c, hc, e⟩
      · rcases h2 with rfl | rfl
        · exact .inl h
        · rcases List.mem_append.mp h with h | h
          · exact .inl h
          · obtain ⟨c, hc, e⟩ := List.mem_map.mp h
            exact .inr ⟨w, List.mem_cons_self .., c, hc, e.symm⟩
      · exact .inr ⟨x, List.mem_cons_of_mem _ hx, c, hc, e⟩
    · show forL _ (.str w :: sD ws) _ = _
      rw [forL]
      have st : store [] (.nm 11) (.str w) (Ew m o r S cell dk x3 x4 x8 x9 acc x11) = some (Ew m o r S cell dk x3 x4 x8 x9 acc (.str w)) := rfl
      rw [st, of_some, bind_ok, h3, bind_ok]
      rcases h1 with rfl | rfl
      · exact q3
      · exact q3
end
end Pg
end Mp
set_option maxHeartbeats 0
namespace Mp
namespace Pg
open PySem
section
variable {m o sg : List Nat} {r : D} {S cell dk x3 x4 : D}
def Wk (sg : List Nat) (j : Nat) (ws : List (List Nat)) : Prop := ws.length ≤ 120 ∧ ∀ w ∈ ws, (∀ c ∈ w, c ∈ sg) ∧ w.length ≤ j
theorem turn_ok (p : Pr m o sg r) {j : Nat} {ws : List (List Nat)} (hw : Wk sg j ws) (hj : j ≤ 9) (x9 x10 x11 : D) : ∃ ws' y10 y11, Wk sg (j + 1) ws' ∧
    mexs clA 100000000 [] b13_13 [S, cell, dk, x3, x4, .str m, .str o, r, .lst true (sD ws), x9, x10, x11, .hole] = .ok .nx [S, cell, dk, x3, x4, .str m, .str o, r, .lst true (sD ws'), x9, y10, y11, .hole] := by
  obtain ⟨h1, h2⟩ := hw
  obtain ⟨acc, y11, q1, q2, q3⟩ := for_w (S := S) (cell := cell) (dk := dk) (x3 := x3) (x4 := x4) (x8 := .lst false (sD ws)) (x9 := x9) p ws [] x11 (fun w hw => ⟨(h2 w hw).1, by have := (h2 w hw).2; omega⟩) (by simp; omega)
  refine ⟨acc.take 120, .lst true (sD acc), y11, ⟨by rw [List.length_take]; omega, fun w hw => ?_⟩, ?_⟩
  · rcases q1 w (List.mem_of_mem_take hw) with h | ⟨v, hv, c, hc, e⟩
    · cases h
    · obtain ⟨v1, v2⟩ := h2 v hv
      rw [e]
      refine ⟨fun x hx => ?_, by rw [List.length_append, List.length_singleton]; omega⟩
      rcases List.mem_append.mp hx with hx | hx
      · exact v1 x hx
      · rw [List.mem_singleton] at hx
        rw [hx]; exact hc
  · unfold b13_13
    rw [seq_nx (e1 := [S, cell, dk, x3, x4, .str m, .str o, r, .lst true (sD ws), x9, .lst true [], x11, .hole]) (by unfold s13_13; simp only [mex, mev, mevs, mit, bind_ok, of_some, fix, isHole, truthR, truth, clean, cleans, whole, wholes, frz, frzs, lend, back, store, augSem, isOwn, reduceIte, Bool.false_eq_true, Bool.and_true, Bool.true_and, Bool.and_self, Bool.and_false, Bool.false_and, decide_true, decide_false, List.contains_nil, List.elem_nil, Option.map_some, Bool.not_true, Bool.not_false, g0, g1, g2, g3, g4, g5, g6, g7, g8, g9, g10, g11, g12, g13, st0, st1, st2, st3, st4, st5, st6, st7, st8, st9, st10, st11, st12, st13, v_addI, v_subI, v_ltI, v_leI, v_gtI, v_geI, v_eqI, v_neI, v_eqS, v_neS, v_eqB, v_neB, v_lenL, v_lenT]; rfl)]
    rw [seq_nx (e1 := [S, cell, dk, x3, x4, .str m, .str o, r, .lst false (sD ws), x9, .lst true (sD acc), y11, .hole]) (by
      unfold s13_19
      have hit : mit clA (.seq (.sh 8)) [S, cell, dk, x3, x4, .str m, .str o, r, .lst true (sD ws), x9, .lst true [], x11, .hole] = .ok (sD ws) [S, cell, dk, x3, x4, .str m, .str o, r, .lst false (sD ws), x9, .lst true [], x11, .hole] := by
        have e1 : mev clA (.sh 8) [S, cell, dk, x3, x4, .str m, .str o, r, .lst true (sD ws), x9, .lst true [], x11, .hole] = .ok (.lst false (sD ws)) [S, cell, dk, x3, x4, .str m, .str o, r, .lst false (sD ws), x9, .lst true [], x11, .hole] := by
          rw [mev]
          show (if whole (.lst true (sD ws)) = true then R.ok (frz (.lst true (sD ws))) ([S, cell, dk, x3, x4, .str m, .str o, r, .lst true (sD ws), x9, .lst true [], x11, .hole].set 8 (frz (.lst true (sD ws)))) else .no) = _
          rw [wh_lst, wholes_sD, if_pos rfl, frz, frzs_sD]
          rfl
        rw [mit, e1, bind_ok]
        show (if wholes (sD ws) = true then R.ok (frzs (sD ws)) _ else .no) = _
        rw [wholes_sD, if_pos rfl, frzs_sD]
      rw [mex, hit, bind_ok]
      exact q3)]
    refine (seq_nx ?_).trans seq_nil
    unfold s13_20
    have sl : opV (.sl false true) [.lst true (sD acc), .int 120] = some (.lst true ((sD acc).take 120)) := v_slHL (k := 120) (cleans_sD acc)
    have et : (sD acc).take 120 = sD (acc.take 120) := by unfold sD; rw [List.map_take]
    rw [et] at sl
    simp only [mex, mev, mevs, mit, bind_ok, of_some, fix, isHole, truthR, truth, clean, cleans, whole, wholes, frz, frzs, lend, back, store, augSem, isOwn, reduceIte, Bool.false_eq_true, Bool.and_true, Bool.true_and, Bool.and_self, Bool.and_false, Bool.false_and, decide_true, decide_false, List.contains_nil, List.elem_nil, Option.map_some, Bool.not_true, Bool.not_false, g0, g1, g2, g3, g4, g5, g6, g7, g8, g9, g10, g11, g12, g13, st0, st1, st2, st3, st4, st5, st6, st7, st8, st9, st10, st11, st12, st13, v_addI, v_subI, v_ltI, v_leI, v_gtI, v_geI, v_eqI, v_neI, v_eqS, v_neS, v_eqB, v_neB, v_lenL, v_lenT, sl]
theorem turns_ok (p : Pr m o sg r) : ∀ (its : List Nat) {j : Nat} {ws : List (List Nat)}, Wk sg j ws → j + its.length ≤ 9 → ∀ (x9 x10 x11 : D), ∃ ws' y9 y10 y11,
    forL (fun x e2 => (R.of (store [] (.nm 9) x e2) e2).bind fun e3 _ => mexs clA 100000000 [] b13_13 e3) (iD its) [S, cell, dk, x3, x4, .str m, .str o, r, .lst true (sD ws), x9, x10, x11, .hole] = .ok .nx [S, cell, dk, x3, x4, .str m, .str o, r, .lst true (sD ws'), y9, y10, y11, .hole]
  | [], j, ws, hw, _, x9, x10, x11 => ⟨ws, x9, x10, x11, rfl⟩
  | i :: its, j, ws, hw, hj, x9, x10, x11 => by
    rw [List.length_cons] at hj
    obtain ⟨ws1, y10, y11, k1, k2⟩ := turn_ok (S := S) (cell := cell) (dk := dk) (x3 := x3) (x4 := x4) p hw (by omega) (.int i) x10 x11
    obtain ⟨ws2, z9, z10, z11, k3⟩ := turns_ok p its k1 (by omega) (.int i) y10 y11
    refine ⟨ws2, z9, z10, z11, ?_⟩
    show forL _ (.int i :: iD its) _ = _
    rw [forL]
    have st : store [] (.nm 9) (.int i) [S, cell, dk, x3, x4, .str m, .str o, r, .lst true (sD ws), x9, x10, x11, .hole] = some [S, cell, dk, x3, x4, .str m, .str o, r, .lst true (sD ws), .int i, x10, x11, .hole] := rfl
    rw [st, of_some, bind_ok, k2, bind_ok]
    exact k3
theorem pair_ok {m o : List Nat} (hm : Okm 7 m) (ho : Okm 7 o) (x7 x8 x9 x10 x11 : D) : ∃ y7 y8 y9 y10 y11, mexs clA 100000000 [] b13_14 [S, cell, dk, x3, x4, .str m, .str o, x7, x8, x9, x10, x11, .hole] = .ok .nx [S, cell, dk, x3, x4, .str m, .str o, y7, y8, y9, y10, y11, .hole] := by
  obtain ⟨sp, r, _, c1, c2, c3, c4⟩ := told_ok 5 (m := m) (o := o) (by have := hm.len; omega) (by have := ho.len; omega) hm.mg ho.mg
  have c1 : clA 3 [.str m, .str o] = some (r, [.hole, .hole]) := c1
  have c2 : clA 12 [.str m, .str o] = some (r, [.hole, .hole]) := c2
  have p : Pr m o (sgs m o sp) r := ⟨hm.le (by decide), ho.le (by decide), c3, Nat.le_trans (List.length_filter_le _ _) (by decide), c4⟩
  obtain ⟨ws, y9, y10, y11, w1⟩ := turns_ok (S := S) (cell := cell) (dk := dk) (x3 := x3) (x4 := x4) p [0, 1, 2, 3] (j := 0) (ws := [[]]) ⟨by decide, fun w hw => by
    rw [List.mem_singleton] at hw
    subst hw
    exact ⟨fun c h => (nomatch h), Nat.le_refl _⟩⟩ (by decide) x9 x10 x11
  refine ⟨r, .lst true (sD ws), y9, y10, y11, ?_⟩
  unfold b13_14
  rw [seq_nx (e1 := [S, cell, dk, x3, x4, .str m, .str o, r, x8, x9, x10, x11, .hole]) (by unfold s13_7; simp only [mex, mev, mevs, mit, bind_ok, of_some, fix, isHole, truthR, truth, clean, cleans, whole, wholes, frz, frzs, lend, back, store, augSem, isOwn, reduceIte, Bool.false_eq_true, Bool.and_true, Bool.true_and, Bool.and_self, Bool.and_false, Bool.false_and, decide_true, decide_false, List.contains_nil, List.elem_nil, Option.map_some, Bool.not_true, Bool.not_false, g0, g1, g2, g3, g4, g5, g6, g7, g8, g9, g10, g11, g12, g13, st0, st1, st2, st3, st4, st5, st6, st7, st8, st9, st10, st11, st12, st13, v_addI, v_subI, v_ltI, v_leI, v_gtI, v_geI, v_eqI, v_neI, v_eqS, v_neS, v_eqB, v_neB, v_lenL, v_lenT, c1])]
  rw [seq_nx (e1 := [S, cell, dk, x3, x4, .str m, .str o, r, x8, x9, x10, x11, .hole]) (by
    unfold s13_9 b13_5
    refine (ife_f ?_).trans seq_nil
    rcases c4 with ⟨u, rfl, _⟩ | ⟨rfl, _⟩
    · simp only [mex, mev, mevs, mit, bind_ok, of_some, fix, isHole, truthR, truth, clean, cleans, whole, wholes, frz, frzs, lend, back, store, augSem, isOwn, reduceIte, Bool.false_eq_true, Bool.and_true, Bool.true_and, Bool.and_self, Bool.and_false, Bool.false_and, decide_true, decide_false, List.contains_nil, List.elem_nil, Option.map_some, Bool.not_true, Bool.not_false, g0, g1, g2, g3, g4, g5, g6, g7, g8, g9, g10, g11, g12, g13, st0, st1, st2, st3, st4, st5, st6, st7, st8, st9, st10, st11, st12, st13, v_addI, v_subI, v_ltI, v_leI, v_gtI, v_geI, v_eqI, v_neI, v_eqS, v_neS, v_eqB, v_neB, v_lenL, v_lenT, c2]
    · have nn : opV .ne [.non, .non] = some (.bl false) := rfl
      simp only [mex, mev, mevs, mit, bind_ok, of_some, fix, isHole, truthR, truth, clean, cleans, whole, wholes, frz, frzs, lend, back, store, augSem, isOwn, reduceIte, Bool.false_eq_true, Bool.and_true, Bool.true_and, Bool.and_self, Bool.and_false, Bool.false_and, decide_true, decide_false, List.contains_nil, List.elem_nil, Option.map_some, Bool.not_true, Bool.not_false, g0, g1, g2, g3, g4, g5, g6, g7, g8, g9, g10, g11, g12, g13, st0, st1, st2, st3, st4, st5, st6, st7, st8, st9, st10, st11, st12, st13, v_addI, v_subI, v_ltI, v_leI, v_gtI, v_geI, v_eqI, v_neI, v_eqS, v_neS, v_eqB, v_neB, v_lenL, v_lenT, c2, nn])]
  rw [seq_nx (okd m o r p)]
  rw [seq_nx (e1 := [S, cell, dk, x3, x4, .str m, .str o, r, .lst true (sD [[]]), x9, x10, x11, .hole]) (by unfold s13_12; simp only [mex, mev, mevs, mit, bind_ok, of_some, fix, isHole, truthR, truth, clean, cleans, whole, wholes, frz, frzs, lend, back, store, augSem, isOwn, reduceIte, Bool.false_eq_true, Bool.and_true, Bool.true_and, Bool.and_self, Bool.and_false, Bool.false_and, decide_true, decide_false, List.contains_nil, List.elem_nil, Option.map_some, Bool.not_true, Bool.not_false, g0, g1, g2, g3, g4, g5, g6, g7, g8, g9, g10, g11, g12, g13, st0, st1, st2, st3, st4, st5, st6, st7, st8, st9, st10, st11, st12, st13, v_addI, v_subI, v_ltI, v_leI, v_gtI, v_geI, v_eqI, v_neI, v_eqS, v_neS, v_eqB, v_neB, v_lenL, v_lenT, decide_eq_true (show ([D.str []] : List D).length ≤ bigLine from big_of (by decide)), if_true]; rfl)]
  refine (seq_nx ?_).trans seq_nil
  unfold s13_21
  have hit : mit clA (.rng1 (.c (.int 4))) [S, cell, dk, x3, x4, .str m, .str o, r, .lst true (sD [[]]), x9, x10, x11, .hole] = .ok (iD [0, 1, 2, 3]) [S, cell, dk, x3, x4, .str m, .str o, r, .lst true (sD [[]]), x9, x10, x11, .hole] := by
    have sm : smallI 4 = true := by decide
    rw [mit, mev, bind_ok]
    show (if smallI 4 = true then _ else _) = _
    rw [if_pos sm]
    rfl
  rw [mex, hit, bind_ok]
  exact w1
end
theorem three (x y z : D) : decide (([x, y, z] : List D).length ≤ bigLine) = true := decide_eq_true (show 3 ≤ bigLine by unfold bigLine; omega)
theorem body_ok (S : D) (cell : Int) (x2 x3 x4 x5 x6 x7 x8 x9 x10 x11 : D) : ∃ y2 y3 y4 y5 y6 y7 y8 y9 y10 y11,
    mexs clA 100000000 [] b13_15 [S, .int cell, x2, x3, x4, x5, x6, x7, x8, x9, x10, x11, .hole] = .ok .nx [S, .int cell, y2, y3, y4, y5, y6, y7, y8, y9, y10, y11, .hole] := by
  obtain ⟨a, b, b0, b1, e0⟩ := deck_ok 8 cell
  obtain ⟨one, a2, c2, l1, h1, g1', d2, e2⟩ := mask_ok 7 (a := a) (b := b) (c := 0) (room := 4000) 6 (by decide) (by decide) (by decide) ⟨b0, b1, by decide, by decide⟩
  have k1 : Okm 6 one := Okm.mch (by omega) g1'
  obtain ⟨m4, a4, c4, l4, h4, g4', d4, e4⟩ := mask_ok 7 (a := a2) (b := b) (c := c2) (room := 2000) 6 (by decide) (by decide) (by decide) (d2.le (by decide))
  obtain ⟨be, a5, c5, k5, d5, e5⟩ := bent_ok 7 (a := a4) (b := b) (c := c4) (room := 1000) k1 (by decide) (d4.le (by decide))
  obtain ⟨r6, a6, c6, r60, r61, d6, e6⟩ := pick 8 (a := a5) (many := 3) (room := 900) (h := d5.le (by decide)) (by decide) (by decide) (by decide)
  have k4 : Okm 6 m4 := Okm.mch (by omega) g4'
  obtain ⟨t, tm, et⟩ := ix_any (o := true) (xs := [.str m4, .str be, .str one]) rfl r60 r61
  obtain ⟨other, rfl, k3⟩ : ∃ other, t = .str other ∧ Okm 7 other := by
    simp only [List.mem_cons, List.not_mem_nil, or_false] at tm
    rcases tm with rfl | rfl | rfl
    · exact ⟨_, rfl, k4.le (by decide)⟩
    · exact ⟨_, rfl, k5⟩
    · exact ⟨_, rfl, k1.le (by decide)⟩
  have k17 := k1.le (show 6 ≤ 7 by decide)
  have e0 : clA 4 [.int cell, .int 0] = some (Dk a b 0, [.hole, .hole]) := e0
  have e2 : clA 6 [Dk a b 0, .int 6] = some (.str one, [Dk a2 b c2, .hole]) := e2
  have e4 : clA 6 [Dk a2 b c2, .int 6] = some (.str m4, [Dk a4 b c4, .hole]) := e4
  have e5 : clA 8 [Dk a4 b c4, .str one] = some (.str be, [Dk a5 b c5, .hole]) := e5
  have e6 : clA 5 [Dk a5 b c5, .int 3] = some (.int r6, [Dk a6 b c6, .hole]) := e6
  obtain ⟨p7, p8, p9, p10, p11, w1⟩ := pair_ok (S := S) (cell := .int cell) (dk := Dk a6 b c6) (x3 := .str one) (x4 := .str other) k17 k3 x7 x8 x9 x10 x11
  obtain ⟨q7, q8, q9, q10, q11, w2⟩ := pair_ok (S := S) (cell := .int cell) (dk := Dk a6 b c6) (x3 := .str one) (x4 := .str other) k3 k17 p7 p8 p9 p10 p11
  refine ⟨Dk a6 b c6, .str one, .str other, .str other, .str one, q7, q8, q9, q10, q11, ?_⟩
  unfold b13_15
  rw [seq_nx (e1 := [S, .int cell, Dk a b 0, x3, x4, x5, x6, x7, x8, x9, x10, x11, .hole]) (by unfold s13_4; simp only [mex, mev, mevs, mit, bind_ok, of_some, fix, isHole, truthR, truth, clean, cleans, whole, wholes, frz, frzs, lend, back, store, augSem, isOwn, reduceIte, Bool.false_eq_true, Bool.and_true, Bool.true_and, Bool.and_self, Bool.and_false, Bool.false_and, decide_true, decide_false, List.contains_nil, List.elem_nil, Option.map_some, Bool.not_true, Bool.not_false, g0, g1, g2, g3, g4, g5, g6, g7, g8, g9, g10, g11, g12, g13, st0, st1, st2, st3, st4, st5, st6, st7, st8, st9, st10, st11, st12, st13, v_addI, v_subI, v_ltI, v_leI, v_gtI, v_geI, v_eqI, v_neI, v_eqS, v_neS, v_eqB, v_neB, v_lenL, v_lenT, e0])]
  rw [seq_nx (e1 := [S, .int cell, Dk a2 b c2, .str one, x4, x5, x6, x7, x8, x9, x10, x11, .hole]) (by unfold s13_5; simp only [mex, mev, mevs, mit, bind_ok, of_some, fix, isHole, truthR, truth, clean, cleans, whole, wholes, frz, frzs, lend, back, store, augSem, isOwn, reduceIte, Bool.false_eq_true, Bool.and_true, Bool.true_and, Bool.and_self, Bool.and_false, Bool.false_and, decide_true, decide_false, List.contains_nil, List.elem_nil, Option.map_some, Bool.not_true, Bool.not_false, g0, g1, g2, g3, g4, g5, g6, g7, g8, g9, g10, g11, g12, g13, st0, st1, st2, st3, st4, st5, st6, st7, st8, st9, st10, st11, st12, st13, v_addI, v_subI, v_ltI, v_leI, v_gtI, v_geI, v_eqI, v_neI, v_eqS, v_neS, v_eqB, v_neB, v_lenL, v_lenT, e2])]
  rw [seq_nx (e1 := [S, .int cell, Dk a6 b c6, .str one, .str other, x5, x6, x7, x8, x9, x10, x11, .hole]) (by unfold s13_6; simp only [mex, mev, mevs, mit, bind_ok, of_some, fix, isHole, truthR, truth, clean, cleans, whole, wholes, frz, frzs, lend, back, store, augSem, isOwn, reduceIte, Bool.false_eq_true, Bool.and_true, Bool.true_and, Bool.and_self, Bool.and_false, Bool.false_and, decide_true, decide_false, List.contains_nil, List.elem_nil, Option.map_some, Bool.not_true, Bool.not_false, g0, g1, g2, g3, g4, g5, g6, g7, g8, g9, g10, g11, g12, g13, st0, st1, st2, st3, st4, st5, st6, st7, st8, st9, st10, st11, st12, st13, v_addI, v_subI, v_ltI, v_leI, v_gtI, v_geI, v_eqI, v_neI, v_eqS, v_neS, v_eqB, v_neB, v_lenL, v_lenT, e4, e5, e6, three, if_true, et])]
  refine (seq_nx ?_).trans seq_nil
  unfold s13_22
  have hit : mit clA (.seq (.dsp false (.cons (.dsp true (.cons (.cp 3) (.cons (.cp 4) .nil))) (.cons (.dsp true (.cons (.cp 4) (.cons (.cp 3) .nil))) .nil)))) [S, .int cell, Dk a6 b c6, .str one, .str other, x5, x6, x7, x8, x9, x10, x11, .hole] = .ok [.tup [.str one, .str other], .tup [.str other, .str one]] [S, .int cell, Dk a6 b c6, .str one, .str other, x5, x6, x7, x8, x9, x10, x11, .hole] := by
    simp only [mex, mev, mevs, mit, bind_ok, of_some, fix, isHole, truthR, truth, clean, cleans, whole, wholes, frz, frzs, lend, back, store, augSem, isOwn, reduceIte, Bool.false_eq_true, Bool.and_true, Bool.true_and, Bool.and_self, Bool.and_false, Bool.false_and, decide_true, decide_false, List.contains_nil, List.elem_nil, Option.map_some, Bool.not_true, Bool.not_false, g0, g1, g2, g3, g4, g5, g6, g7, g8, g9, g10, g11, g12, g13, st0, st1, st2, st3, st4, st5, st6, st7, st8, st9, st10, st11, st12, st13, v_addI, v_subI, v_ltI, v_leI, v_gtI, v_geI, v_eqI, v_neI, v_eqS, v_neS, v_eqB, v_neB, v_lenL, v_lenT, two, if_true]
  rw [mex, hit, bind_ok]
  have sto : ∀ {x5 x6 x7 x8 x9 x10 x11 : D} {u v : List Nat}, store [] (.tp [5, 6]) (.tup [.str u, .str v]) [S, .int cell, Dk a6 b c6, .str one, .str other, x5, x6, x7, x8, x9, x10, x11, .hole] = some [S, .int cell, Dk a6 b c6, .str one, .str other, .str u, .str v, x7, x8, x9, x10, x11, .hole] := rfl
  rw [forL, sto, of_some, bind_ok, w1, bind_ok]
  show forL _ _ _ = _
  rw [forL, sto, of_some, bind_ok, w2, bind_ok]
  rfl
theorem for13_ok (S : D) : ∀ (cs : List Int) (x1 x2 x3 x4 x5 x6 x7 x8 x9 x10 x11 : D), ∃ y1 y2 y3 y4 y5 y6 y7 y8 y9 y10 y11,
    forL (fun x e2 => (R.of (store [] (.nm 1) x e2) e2).bind fun e3 _ => mexs clA 100000000 [] b13_15 e3) (cs.map D.int) [S, x1, x2, x3, x4, x5, x6, x7, x8, x9, x10, x11, .hole] = .ok .nx [S, y1, y2, y3, y4, y5, y6, y7, y8, y9, y10, y11, .hole]
  | [], x1, x2, x3, x4, x5, x6, x7, x8, x9, x10, x11 => ⟨x1, x2, x3, x4, x5, x6, x7, x8, x9, x10, x11, rfl⟩
  | c :: cs, x1, x2, x3, x4, x5, x6, x7, x8, x9, x10, x11 => by
    obtain ⟨y2, y3, y4, y5, y6, y7, y8, y9, y10, y11, h⟩ := body_ok S c x2 x3 x4 x5 x6 x7 x8 x9 x10 x11
    obtain ⟨z1, z2, z3, z4, z5, z6, z7, z8, z9, z10, z11, h'⟩ := for13_ok S cs (.int c) y2 y3 y4 y5 y6 y7 y8 y9 y10 y11
    refine ⟨z1, z2, z3, z4, z5, z6, z7, z8, z9, z10, z11, ?_⟩
    show forL _ (.int c :: cs.map D.int) _ = _
    rw [forL]
    have st : store [] (.nm 1) (.int c) [S, x1, x2, x3, x4, x5, x6, x7, x8, x9, x10, x11, .hole] = some [S, .int c, x2, x3, x4, x5, x6, x7, x8, x9, x10, x11, .hole] := rfl
    simp only [st, of_some, bind_ok, h]
    exact h'
theorem cleans_ints : ∀ ns : List Int, cleans (ns.map D.int) = true
  | [] => rfl
  | n :: r => by show (clean (.int n) && cleans (r.map D.int)) = true; rw [cleans_ints r]; rfl
theorem wholes_ints : ∀ ns : List Int, wholes (ns.map D.int) = true
  | [] => rfl
  | n :: r => by show (whole (.int n) && wholes (r.map D.int)) = true; rw [wholes_ints r]; rfl
theorem frzs_ints : ∀ ns : List Int, frzs (ns.map D.int) = ns.map D.int
  | [] => rfl
  | n :: r => by show frz (.int n) :: frzs (r.map D.int) = _; rw [frzs_ints r]; rfl
theorem consts_gen {call : CallF} (c1 : call 3 [.str W1, .str O1] = some (.non, [.hole, .hole])) (c2 : call 3 [.str W2, .str O2] = some (.str [97, 48, 98], [.hole, .hole])) (c3 : call 3 [.str W3, .str O3] = some (.str [97, 97, 97, 97, 97, 48, 97, 97, 97, 97, 97], [.hole, .hole]))
    (e : Env) (rest : MSs) : mexs call 100000000 [] (.cons s13_1 (.cons s13_3 rest)) e = mexs call 100000000 [] rest e := by
  have nn : opV .notN [.non] = some (.bl false) := rfl
  have n2 : opV .ne [.str [97, 48, 98], .str [97, 48, 98]] = some (.bl false) := by rw [v_neS]; rfl
  have n3 : opV .ne [.str [97, 97, 97, 97, 97, 48, 97, 97, 97, 97, 97], .str [97, 97, 97, 97, 97, 48, 97, 97, 97, 97, 97]] = some (.bl false) := by rw [v_neS]; rfl
  have k : ∀ (u v t : List Nat) (rr : D), call 3 [.str u, .str v] = some (rr, [.hole, .hole]) → mev call (.call 3 (.cons (.c (.str u)) (.cons (.c (.str v)) .nil))) e = .ok rr e := fun u v t rr h => by
    simp only [mex, mev, mevs, mit, bind_ok, of_some, fix, isHole, truthR, truth, clean, cleans, whole, wholes, frz, frzs, lend, back, store, augSem, isOwn, reduceIte, Bool.false_eq_true, Bool.and_true, Bool.true_and, Bool.and_self, Bool.and_false, Bool.false_and, decide_true, decide_false, List.contains_nil, List.elem_nil, Option.map_some, Bool.not_true, Bool.not_false, g0, g1, g2, g3, g4, g5, g6, g7, g8, g9, g10, g11, g12, g13, st0, st1, st2, st3, st4, st5, st6, st7, st8, st9, st10, st11, st12, st13, v_addI, v_subI, v_ltI, v_leI, v_gtI, v_geI, v_eqI, v_neI, v_eqS, v_neS, v_eqB, v_neB, v_lenL, v_lenT, h]
  rw [seq_nx (e1 := e) (by
    unfold s13_1 b13_1
    refine (ife_f ?_).trans seq_nil
    have t1 : mev call (.op .notN (.cons (.call 3 (.cons (.c (.str W1)) (.cons (.c (.str O1)) .nil))) .nil)) e = .ok (.bl false) e := by
      rw [mev, mevs, k W1 O1 [] _ c1, bind_ok, mevs, bind_ok, bind_ok]
      show R.of (opV .notN [.non]) e = _
      rw [nn]; rfl
    have t2 : mev call (.op .ne (.cons (.call 3 (.cons (.c (.str W2)) (.cons (.c (.str O2)) .nil))) (.cons (.c (.str [97, 48, 98])) .nil))) e = .ok (.bl false) e := by
      rw [mev, mevs, k W2 O2 [] _ c2, bind_ok, mevs, mev, bind_ok, mevs, bind_ok, bind_ok, bind_ok]
      show R.of (opV .ne [.str [97, 48, 98], .str [97, 48, 98]]) e = _
      rw [n2]; rfl
    unfold truthR
    rw [mev, t1, bind_ok]
    show R.bind (mev call _ e) _ = _
    rw [t2]
    rfl)]
  rw [seq_nx (e1 := e) (by
    unfold s13_3 b13_3
    refine (ife_f ?_).trans seq_nil
    have t3 : mev call (.op .ne (.cons (.call 3 (.cons (.c (.str W3)) (.cons (.c (.str O3)) .nil))) (.cons (.c (.str [97, 97, 97, 97, 97, 48, 97, 97, 97, 97, 97])) .nil))) e = .ok (.bl false) e := by
      rw [mev, mevs, k W3 O3 [] _ c3, bind_ok, mevs, mev, bind_ok, mevs, bind_ok, bind_ok, bind_ok]
      show R.of (opV .ne [.str [97, 97, 97, 97, 97, 48, 97, 97, 97, 97, 97], .str [97, 97, 97, 97, 97, 48, 97, 97, 97, 97, 97]]) e = _
      rw [n3]; rfl
    unfold truthR
    rw [t3]
    rfl)]
theorem consts_ok (e : Env) (rest : MSs) : mexs clA 100000000 [] (.cons s13_1 (.cons s13_3 rest)) e = mexs clA 100000000 [] rest e := consts_gen (first3 5) (second3 5) (third3 5) e rest
theorem law_ok (ns : List Int) (hl : ns.length ≤ 63) : ∃ outs, mcall 100000000 (tabOf tab) 10 13 [.lst false (ns.map D.int)] = some (.bl true, outs) := by
  obtain ⟨y1, y2, y3, y4, y5, y6, y7, y8, y9, y10, y11, h⟩ := for13_ok (.lst false (ns.map D.int)) (0 :: ns.take 4) .hole .hole .hole .hole .hole .hole .hole .hole .hole .hole .hole
  refine ⟨[.hole], run_ret (n := 9) (m := m13) (e := [.lst false (ns.map D.int), y1, y2, y3, y4, y5, y6, y7, y8, y9, y10, y11, .hole]) rfl rfl ?_ rfl⟩
  show mexs clA 100000000 [] b13_16 [.lst false (ns.map D.int), .hole, .hole, .hole, .hole, .hole, .hole, .hole, .hole, .hole, .hole, .hole, .hole] = _
  unfold b13_16
  rw [consts_ok]
  have sl : opV (.sl false true) [.lst false (ns.map D.int), .int 4] = some (.lst true ((ns.map D.int).take 4)) := v_slHL (k := 4) (cleans_ints ns)
  have ad : opV .add [.lst true [.int 0], .lst true ((ns.map D.int).take 4)] = some (.lst true ((0 :: ns.take 4).map D.int)) := by
    show (if (cleans [.int 0] && cleans ((ns.map D.int).take 4) && decide (([.int 0] : List D).length + ((ns.map D.int).take 4).length ≤ bigLine)) = true then some (D.lst true ([.int 0] ++ (ns.map D.int).take 4)) else none) = _
    rw [← List.map_take, if_pos]
    · rfl
    · rw [cleans_ints]
      have : ([D.int 0] : List D).length + ((ns.take 4).map D.int).length ≤ bigLine := by
        simp only [List.length_map, List.length_take, List.length_cons, List.length_nil]
        unfold bigLine; omega
      rw [decide_eq_true this]; rfl
  have l1 : decide (([D.int 0] : List D).length ≤ bigLine) = true := decide_eq_true (show 1 ≤ bigLine by unfold bigLine; omega)
  have hit : mit clA (.seq (.op .add (.cons (.dsp false (.cons (.c (.int 0)) .nil)) (.cons (.op (.sl false true) (.cons (.bw 0) (.cons (.c (.int 4)) .nil))) .nil)))) [.lst false (ns.map D.int), .hole, .hole, .hole, .hole, .hole, .hole, .hole, .hole, .hole, .hole, .hole, .hole] =
      .ok ((0 :: ns.take 4).map D.int) [.lst false (ns.map D.int), .hole, .hole, .hole, .hole, .hole, .hole, .hole, .hole, .hole, .hole, .hole, .hole] := by
    simp only [mex, mev, mevs, mit, bind_ok, of_some, fix, isHole, truthR, truth, clean, cleans, whole, wholes, frz, frzs, lend, back, store, augSem, isOwn, reduceIte, Bool.false_eq_true, Bool.and_true, Bool.true_and, Bool.and_self, Bool.and_false, Bool.false_and, decide_true, decide_false, List.contains_nil, List.elem_nil, Option.map_some, Bool.not_true, Bool.not_false, g0, g1, g2, g3, g4, g5, g6, g7, g8, g9, g10, g11, g12, g13, st0, st1, st2, st3, st4, st5, st6, st7, st8, st9, st10, st11, st12, st13, v_addI, v_subI, v_ltI, v_leI, v_gtI, v_geI, v_eqI, v_neI, v_eqS, v_neS, v_eqB, v_neB, v_lenL, v_lenT, l1, if_true, Bool.false_eq_true, if_false, sl, ad, wholes_ints, frzs_ints]
  rw [seq_nx (e1 := [.lst false (ns.map D.int), y1, y2, y3, y4, y5, y6, y7, y8, y9, y10, y11, .hole]) (by
    unfold s13_23
    rw [mex, hit, bind_ok]
    exact h)]
  unfold s13_24
  exact seq_ret (by simp only [mex, mev, mevs, mit, bind_ok, of_some, fix, isHole, truthR, truth, clean, cleans, whole, wholes, frz, frzs, lend, back, store, augSem, isOwn, reduceIte, Bool.false_eq_true, Bool.and_true, Bool.true_and, Bool.and_self, Bool.and_false, Bool.false_and, decide_true, decide_false, List.contains_nil, List.elem_nil, Option.map_some, Bool.not_true, Bool.not_false, g0, g1, g2, g3, g4, g5, g6, g7, g8, g9, g10, g11, g12, g13, st0, st1, st2, st3, st4, st5, st6, st7, st8, st9, st10, st11, st12, st13, v_addI, v_subI, v_ltI, v_leI, v_gtI, v_geI, v_eqI, v_neI, v_eqS, v_neS, v_eqB, v_neB, v_lenL, v_lenT])
end Pg
end Mp
theorem PySem.Challenge.cw_splitmoot_k03_whole_masks_covered_holds : PySem.Challenge.rw_splitmoot_k03_whole_masks_covered.Holds := by
  exact Mp.Pg.holds Mp.Pg.law_ok
