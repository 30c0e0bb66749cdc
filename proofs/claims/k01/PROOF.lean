import PyProof.Rows.All
import PySem.Str
import PySem.Syntax
import Wide.All
import OpenK.AllK
import Wide.FinOn
import HandS.ForMost
import HandS.ForExc
import HandS.Flow
import HandS.Style
import HandS.Deep
import HandS.TupAny
import HandS.Rev
import HandS.Zip
import HandS.IsInst
import HandS.Conv
import HandS.Defaults
import HandS.Head0
import HandS.Head1
import HandS.Head2
import HandS.HeadEnd
import HandS.HeadHook1
import HandS.HeadHook2
import HandS.Words
import HandS.WordsExc
import PySem.Challenge.RW_tablequest_k01_values_and_kinds
set_option Elab.async false
set_option linter.all false
set_option maxRecDepth 100000
set_option maxHeartbeats 4000000
/-! DL0: plain data, a small language of plain expressions and statements, and its evaluator. No heap here. -/
namespace TQ

/-- plain data -/
inductive D where
  | non | bl (b : Bool) | int (i : Int) | str (x : List Nat)
  | tup (xs : List D) | lst (xs : List D) | scr (ns : List Int)
  | dct (kvs : List (D × D))
  deriving Inhabited

/-- a result: a value, an exception of the text's own (class, arguments), or nothing that is told -/
inductive R (α : Type) where
  | ok (a : α) | exc (c : List Nat) (as : List D) | bad

def R.bind {α β : Type} (x : R α) (f : α → R β) : R β := match x with
  | .ok a => f a
  | .exc c as => .exc c as
  | .bad => .bad
@[simp] theorem R.bind_ok {α β : Type} (a : α) (f : α → R β) : (R.ok a).bind f = f a := rfl
@[simp] theorem R.bind_exc {α β : Type} (c : List Nat) (as : List D) (f : α → R β) : (R.exc c as : R α).bind f = .exc c as := rfl
@[simp] theorem R.bind_bad {α β : Type} (f : α → R β) : (R.bad : R α).bind f = .bad := rfl
theorem R.bind_eq_ok {α β : Type} {x : R α} {f : α → R β} {b : β} (h : x.bind f = .ok b) : ∃ a, x = .ok a ∧ f a = .ok b := by
  cases x with
  | ok a => exact ⟨a, rfl, h⟩
  | exc c as => cases h
  | bad => cases h
theorem R.bind_assoc {α β γ : Type} (x : R α) (f : α → R β) (g : β → R γ) : (x.bind f).bind g = x.bind fun a => (f a).bind g := by
  cases x <;> rfl

/-- .. where nothing may fly -/
def R.bindB {α β : Type} (x : R α) (f : α → R β) : R β := match x with
  | .ok a => f a
  | _ => .bad
@[simp] theorem R.bindB_ok {α β : Type} (a : α) (f : α → R β) : (R.ok a).bindB f = f a := rfl
@[simp] theorem R.bindB_bad {α β : Type} (f : α → R β) : (R.bad : R α).bindB f = .bad := rfl

/-- the longest list or text -/
def LN : Nat := 16777216

/-! ### what is told of data -/
mutual
def eqv : D → D → Bool
  | .non, .non => true
  | .bl a, .bl b => a == b
  | .bl a, .int j => (if a then 1 else 0) == j
  | .int i, .bl b => i == (if b then 1 else 0)
  | .int i, .int j => i == j
  | .str x, .str y => x == y
  | .lst xs, .lst ys => eqvs xs ys
  | .tup xs, .tup ys => eqvs xs ys
  | _, _ => false
def eqvs : List D → List D → Bool
  | [], [] => true
  | x :: xs, y :: ys => eqv x y && eqvs xs ys
  | _, _ => false
end
mutual
/-- no dict, no script within -/
def plain : D → Bool
  | .tup xs => plains xs
  | .lst xs => plains xs
  | .scr _ => false
  | .dct _ => false
  | _ => true
def plains : List D → Bool
  | [] => true
  | x :: xs => plain x && plains xs
end
mutual
/-- at most k within one another -/
def shal : Nat → D → Bool
  | k, .tup xs => match k with | 0 => false | k + 1 => shals k xs
  | k, .lst xs => match k with | 0 => false | k + 1 => shals k xs
  | _, _ => true
def shals : Nat → List D → Bool
  | _, [] => true
  | k, x :: xs => shal k x && shals k xs
end
def eqOk (a b : D) : Bool := plain a && plain b && (shal 60 a || shal 60 b)
def eqD (a b : D) : R Bool := if eqOk a b then .ok (eqv a b) else .bad

def truthD : D → R Bool
  | .non => .ok false
  | .bl b => .ok b
  | .int i => .ok (i != 0)
  | .str x => .ok !x.isEmpty
  | .tup xs => .ok !xs.isEmpty
  | .lst xs => .ok !xs.isEmpty
  | .scr _ => .bad
  | .dct _ => .bad

def small64 (i : Int) : Bool := decide (-(2 ^ 64) < i) && decide (i < 2 ^ 64)

def addD : D → D → R D
  | .int a, .int b => .ok (.int (a + b))
  | .str a, .str b => if a.length + b.length ≤ LN then .ok (.str (a ++ b)) else .bad
  | .tup a, .tup b => if a.length + b.length ≤ LN then .ok (.tup (a ++ b)) else .bad
  | .lst a, .lst b => if a.length + b.length ≤ LN then .ok (.lst (a ++ b)) else .bad
  | _, _ => .bad
def subD : D → D → R D
  | .int a, .int b => .ok (.int (a - b))
  | _, _ => .bad
def repL (xs : List D) : Nat → List D
  | 0 => []
  | k + 1 => xs ++ repL xs k
def mulD : D → D → R D
  | .int a, .int b => if small64 a || small64 b then .ok (.int (a * b)) else .bad
  | .lst xs, .int k => if -(LN : Int) ≤ k ∧ k ≤ LN ∧ xs.length * k.toNat ≤ LN then .ok (.lst (repL xs k.toNat)) else .bad
  | _, _ => .bad
def modD : D → D → R D
  | .int a, .int b => if 0 < b then .ok (.int (a % b)) else .bad
  | _, _ => .bad
def fdivD : D → D → R D
  | .int a, .int b => if 0 < b ∧ b < 1073741824 then .ok (.int (a / b)) else .bad
  | _, _ => .bad
def powD : D → D → R D
  | .int a, .int b => if 0 ≤ b ∧ b ≤ 1000000 ∧ a.natAbs < 2 ^ 64 then .ok (.int (a ^ b.toNat)) else .bad
  | _, _ => .bad

/-- a text below another -/
def ltL : List Nat → List Nat → Bool
  | [], [] => false
  | [], _ :: _ => true
  | _ :: _, [] => false
  | a :: as, b :: bs => if a < b then true else if a = b then ltL as bs else false
def ltD : D → D → R D
  | .int a, .int b => .ok (.bl (decide (a < b)))
  | .str a, .str b => .ok (.bl (ltL a b))
  | _, _ => .bad
def leD : D → D → R D
  | .int a, .int b => .ok (.bl (decide (a ≤ b)))
  | _, _ => .bad
def isNon : D → Bool
  | .non => true
  | _ => false
def isBl (c : Bool) : D → Bool
  | .bl b => b == c
  | _ => false
def isD : D → D → R D
  | a, .non => .ok (.bl (isNon a))
  | a, .bl c => .ok (.bl (isBl c a))
  | _, _ => .bad
def lookD : List (D × D) → D → Option D
  | [], _ => none
  | p :: r, k => if eqv p.1 k then some p.2 else lookD r k
/-- a key of a dict: a whole number or a text -/
def isKey : D → Bool
  | .int _ => true
  | .str _ => true
  | _ => false
/-- may k be asked of a dict with such pairs -/
def keyOk (kvs : List (D × D)) (k : D) : Bool := isKey k
def inD (x : D) : D → R Bool
  | .tup ys => if ys.all fun y => eqOk y x then .ok (ys.any fun y => eqv y x) else .bad
  | .lst ys => if ys.all fun y => eqOk y x then .ok (ys.any fun y => eqv y x) else .bad
  | .str y => match x with
    | .str [c] => .ok (y.contains c)
    | _ => .bad
  | .dct kvs => if keyOk kvs x then .ok (lookD kvs x).isSome else .bad
  | _ => .bad

/-- a place: from behind, if below nought -/
def ixI (n : Nat) (i : Int) : Option Nat := if 0 ≤ i then (if i < n then some i.toNat else none) else if -(n : Int) ≤ i then some (i + n).toNat else none
def nthD {α : Type} : List α → Nat → Option α
  | [], _ => none
  | x :: _, 0 => some x
  | _ :: xs, k + 1 => nthD xs k
def itemD {α : Type} (xs : List α) (i : Int) : Option α := (ixI xs.length i).bind fun j => nthD xs j
def ofO {α β : Type} (o : Option α) (f : α → R β) : R β := match o with
  | some a => f a
  | none => .bad
@[simp] theorem ofO_some {α β : Type} (a : α) (f : α → R β) : ofO (some a) f = f a := rfl
@[simp] theorem ofO_none {α β : Type} (f : α → R β) : ofO (none : Option α) f = .bad := rfl
def ixD : D → D → R D
  | .tup xs, .int i => ofO (itemD xs i) .ok
  | .lst xs, .int i => ofO (itemD xs i) .ok
  | .scr ns, .int i => ofO (itemD ns i) fun n => .ok (.int n)
  | .str x, .int i => ofO (itemD x i) fun c => .ok (.str [c])
  | .dct kvs, k => if keyOk kvs k then ofO (lookD kvs k) .ok else .bad
  | _, _ => .bad
/-- a bound of a slice -/
def cutAt (n d : Nat) : Option Int → Nat
  | none => d
  | some i => if i < 0 then (i + n).toNat else min i.toNat n
def cutL {α : Type} (xs : List α) (lo hi : Option Int) : List α := (xs.drop (cutAt xs.length 0 lo)).take (cutAt xs.length xs.length hi - cutAt xs.length 0 lo)
def cutR (a : D) (l h : Option Int) : R D := match a with
  | .tup xs => .ok (.tup (cutL xs l h))
  | .lst xs => .ok (.lst (cutL xs l h))
  | .str x => .ok (.str (cutL x l h))
  | _ => .bad
def cutFrom (a l : D) : R D := match l with
  | .int i => cutR a (some i) none
  | _ => .bad
def cutTo (a h : D) : R D := match h with
  | .int i => cutR a none (some i)
  | _ => .bad
def cutFT (a l h : D) : R D := match l, h with
  | .int i, .int j => cutR a (some i) (some j)
  | _, _ => .bad

def lenD : D → R D
  | .str x => .ok (.int x.length)
  | .tup xs => .ok (.int xs.length)
  | .lst xs => .ok (.int xs.length)
  | .scr ns => .ok (.int ns.length)
  | .dct kvs => .ok (.int kvs.length)
  | _ => .bad
def boolsD : List D → Option (List Bool)
  | [] => some []
  | .bl b :: r => (boolsD r).map (b :: ·)
  | _ => none
def intsD : List D → Option (List Int)
  | [] => some []
  | .int b :: r => (intsD r).map (b :: ·)
  | _ => none
def strsD : List D → Option (List (List Nat))
  | [] => some []
  | .str b :: r => (strsD r).map (b :: ·)
  | _ => none
def allD : D → R D
  | .lst xs => ofO (boolsD xs) fun bs => .ok (.bl (bs.all id))
  | _ => .bad
def anyD : D → R D
  | .lst xs => ofO (boolsD xs) fun bs => .ok (.bl (bs.any id))
  | _ => .bad
/-- a pair stored into a dict -/
def putD : List (D × D) → D → D → List (D × D)
  | [], k, v => [(k, v)]
  | p :: r, k, v => if eqv p.1 k then (p.1, v) :: r else p :: putD r k v
def pairOf : D → Option (D × D)
  | .tup [a, b] => some (a, b)
  | _ => none
def pairsD : List D → Option (List (D × D))
  | [] => some []
  | x :: r => (pairOf x).bind fun p => (pairsD r).map (p :: ·)
def mergeD (acc : List (D × D)) : List (D × D) → List (D × D)
  | [] => acc
  | p :: r => mergeD (putD acc p.1 p.2) r
/-- dict(..) of pairs -/
def dictOf (ps : List (D × D)) : R D := if (ps.all fun p => isKey p.1) then .ok (.dct (mergeD [] ps)) else .bad
def seqOf : D → Option (List D)
  | .tup xs => some xs
  | .lst xs => some xs
  | _ => none
def dictD (a : D) : R D := ofO (seqOf a) fun xs => ofO (pairsD xs) dictOf
def intD : D → R D
  | .int i => .ok (.int i)
  | .bl b => .ok (.int (if b then 1 else 0))
  | _ => .bad
def listD : D → R D
  | .tup xs => .ok (.lst xs)
  | .lst xs => .ok (.lst xs)
  | _ => .bad
def tupleD : D → R D
  | .tup xs => .ok (.tup xs)
  | .lst xs => .ok (.tup xs)
  | _ => .bad
/-- the figures of a number -/
def figs (n : Nat) : List Nat := (Nat.toDigits 10 n).map Char.toNat
def strOfInt (i : Int) : List Nat := if i < 0 then 45 :: figs i.natAbs else figs i.natAbs
def strD : D → R D
  | .int i => if i.natAbs.log2 < 1920 then .ok (.str (strOfInt i)) else .bad
  | .str x => .ok (.str x)
  | _ => .bad
def sumD : D → R D
  | .lst xs => ofO (intsD xs) fun ns => .ok (.int ns.sum)
  | .scr ns => .ok (.int ns.sum)
  | _ => .bad
def nubD : List (List Nat) → List (List Nat)
  | [] => []
  | x :: r => if r.contains x then nubD r else x :: nubD r
def insL (x : List Nat) : List (List Nat) → List (List Nat)
  | [] => [x]
  | y :: r => if ltL y x then y :: insL x r else x :: y :: r
def sortL : List (List Nat) → List (List Nat)
  | [] => []
  | x :: r => insL x (sortL r)
/-- len(set(x)) of texts -/
def lensetD (a : D) : R D := ofO (seqOf a) fun xs => ofO (strsD xs) fun ss => .ok (.int (nubD ss).length)
/-- sorted(set(x)) of texts -/
def sortsetD (a : D) : R D := ofO (seqOf a) fun xs => ofO (strsD xs) fun ss => if ss.length < 64 then .ok (.lst ((sortL (nubD ss)).map .str)) else .bad
/-- sorted(x) of texts -/
def sortedD (a : D) : R D := match a with
  | .lst xs => ofO (strsD xs) fun ss => if ss.length < 64 then .ok (.lst ((sortL ss).map .str)) else .bad
  | .dct kvs => ofO (strsD (kvs.map (·.1))) fun ss => if ss.length < 64 then .ok (.lst ((sortL ss).map .str)) else .bad
  | _ => .bad
def revD : D → R D
  | .tup xs => .ok (.tup xs.reverse)
  | .lst xs => .ok (.lst xs.reverse)
  | .str xs => .ok (.str xs.reverse)
  | _ => .bad
def upC (c : Nat) : Nat := if 97 ≤ c ∧ c ≤ 122 then c - 32 else c
def upperD : D → R D
  | .str x => if x.all fun c => c < 128 then .ok (.str (x.map upC)) else .bad
  | _ => .bad
/-- the types that isinstance is asked of -/
inductive Ty where
  | str | int | bool | tuple | list
def isiD (t : Ty) : D → R D
  | .str _ => .ok (.bl (match t with | .str => true | _ => false))
  | .int _ => .ok (.bl (match t with | .int => true | _ => false))
  | .bl _ => .ok (.bl (match t with | .int => true | .bool => true | _ => false))
  | .tup _ => .ok (.bl (match t with | .tuple => true | _ => false))
  | .lst _ => .ok (.bl (match t with | .list => true | _ => false))
  | .non => .ok (.bl false)
  | _ => .bad
def joinL (s : List Nat) : List (List Nat) → List Nat
  | [] => []
  | [x] => x
  | x :: r => x ++ (s ++ joinL s r)
def joinD (s a : D) : R D := match s, a with
  | .str s, .lst xs => ofO (strsD xs) fun ss => if (ss.map List.length).sum + ss.length * s.length ≤ LN then .ok (.str (joinL s ss)) else .bad
  | _, _ => .bad
def idxOf : List D → D → Nat → Option Nat
  | [], _, _ => none
  | y :: r, x, k => if eqv y x then some k else idxOf r x (k + 1)
def indexD (a x : D) : R D := match a with
  | .lst xs => if xs.all fun y => eqOk y x then ofO (idxOf xs x 0) fun k => .ok (.int k) else .bad
  | _ => .bad
def countD (a x : D) : R D := match a with
  | .lst xs => if xs.all fun y => eqOk y x then .ok (.int (xs.countP fun y => eqv y x : Nat)) else .bad
  | _ => .bad
def getD' (a k d : D) : R D := match a with
  | .dct kvs => if keyOk kvs k then .ok ((lookD kvs k).getD d) else .bad
  | _ => .bad
/-- replace of one sign -/
def replL (c : Nat) (t : List Nat) : List Nat → List Nat
  | [] => []
  | x :: r => if x = c then t ++ replL c t r else x :: replL c t r
def replD (a x y : D) : R D := match a, x, y with
  | .str a, .str [c], .str t => if (replL c t a).length ≤ LN then .ok (.str (replL c t a)) else .bad
  | _, _, _ => .bad
def max2D : D → D → R D
  | .int a, .int b => .ok (.int (if b > a then b else a))
  | _, _ => .bad
def min2D : D → D → R D
  | .int a, .int b => .ok (.int (if b < a then b else a))
  | _, _ => .bad
def dzipD (a b : D) : R D := ofO (seqOf a) fun xs => ofO (seqOf b) fun ys => dictOf (xs.zip ys)
/-- the greatest (least): the first of those -/
def bestD (gt : Bool) : D → List D → R D
  | m, [] => .ok m
  | m, x :: r => ((if gt then ltD m x else ltD x m)).bind fun b => match b with
    | .bl true => bestD gt x r
    | .bl false => bestD gt m r
    | _ => .bad
def maxD : D → R D
  | .lst (x :: r) => bestD true x r
  | _ => .bad
def minD : D → R D
  | .lst (x :: r) => bestD false x r
  | _ => .bad
/-- what a walk over a value draws -/
def iterD : D → R (List D)
  | .tup xs => .ok xs
  | .lst xs => .ok xs
  | .str x => .ok (x.map fun c => .str [c])
  | .scr ns => .ok (ns.map .int)
  | _ => .bad

/-! ### the language -/
inductive O1 where
  | neg | len | all | any | bool | dict | int | list | tuple | str | sum | lenset | sortset | sorted | rev | upper | max | min | isi (t : Ty)
inductive O2 where
  | add | sub | mul | mod | fdiv | pow | eq | ne | lt | le | gt | ge | is_ | isnot | in_ | notin | ix | join | index | count | max2 | min2 | dzip | cutf | cutt
inductive O3 where
  | slice | get | repl
def blR (r : R Bool) : R D := r.bind fun b => .ok (.bl b)
def nblR (r : R Bool) : R D := r.bind fun b => .ok (.bl !b)
def notR (r : R D) : R D := r.bind fun d => match d with | .bl b => .ok (.bl !b) | _ => .bad
def do1 : O1 → D → R D
  | .neg, d => match d with | .int i => .ok (.int (-i)) | _ => .bad
  | .len, d => lenD d
  | .all, d => allD d
  | .any, d => anyD d
  | .bool, d => blR (truthD d)
  | .dict, d => dictD d
  | .int, d => intD d
  | .list, d => listD d
  | .tuple, d => tupleD d
  | .str, d => strD d
  | .sum, d => sumD d
  | .lenset, d => lensetD d
  | .sortset, d => sortsetD d
  | .sorted, d => sortedD d
  | .rev, d => revD d
  | .upper, d => upperD d
  | .max, d => maxD d
  | .min, d => minD d
  | .isi t, d => isiD t d
def do2 : O2 → D → D → R D
  | .add, a, b => addD a b
  | .sub, a, b => subD a b
  | .mul, a, b => mulD a b
  | .mod, a, b => modD a b
  | .fdiv, a, b => fdivD a b
  | .pow, a, b => powD a b
  | .eq, a, b => blR (eqD a b)
  | .ne, a, b => nblR (eqD a b)
  | .lt, a, b => ltD a b
  | .le, a, b => leD a b
  | .gt, a, b => ltD b a
  | .ge, a, b => leD b a
  | .is_, a, b => isD a b
  | .isnot, a, b => notR (isD a b)
  | .in_, a, b => blR (inD a b)
  | .notin, a, b => nblR (inD a b)
  | .ix, a, b => ixD a b
  | .join, a, b => joinD a b
  | .index, a, b => indexD a b
  | .count, a, b => countD a b
  | .max2, a, b => max2D a b
  | .min2, a, b => min2D a b
  | .dzip, a, b => dzipD a b
  | .cutf, a, b => cutFrom a b
  | .cutt, a, b => cutTo a b
def do3 : O3 → D → D → D → R D
  | .slice, a, b, c => cutFT a b c
  | .get, a, b, c => getD' a b c
  | .repl, a, b, c => replD a b c

/-- what must be so ahead of the third part -/
def pre3 : O3 → D → R Unit
  | .slice, .int _ => .ok ()
  | .slice, _ => .bad
  | _, _ => .ok ()
/-- of what a method is asked -/
def preM : D → O2 → R Unit
  | .str _, .join => .ok ()
  | .lst _, .index => .ok ()
  | .lst _, .count => .ok ()
  | _, _ => .bad
def preM2 : D → O3 → R Unit
  | .dct _, .get => .ok ()
  | .str _, .repl => .ok ()
  | _, _ => .bad

mutual
/-- a target: a place, or places that a tuple goes to -/
inductive Tg where
  | nm (i : Nat) | tp (ts : Tgs)
inductive Tgs where
  | nil | cons (t : Tg) (ts : Tgs)
end
mutual
inductive E where
  | lit (d : D) | glo (d : D) | var (i : Nat) | mvar (i : Nat)
  | tup (es : Es) | lst (es : Es) | dsp (ks vs : Es) | call (f : Nat) (es : Es)
  | op1 (o : O1) (a : E) | op2 (o : O2) (a b : E) | op3 (o : O3) (a b c : E) | m1 (o : O2) (a b : E) | m2 (o : O3) (a b c : E)
  | and (a b : E) | or (a b : E) | not (a : E) | ite (c a b : E) | chain (o o' : O2) (a b c : E)
  | comp (elt : E) (tg : Tg) (it : I) (cs : Es)
inductive Es where
  | nil | cons (e : E) (es : Es)
inductive I where
  | of (e : E) | rng (a : E) | rng2 (a b : E) | enum (a : E) | zip (a b : E) | rev (a : E)
end
mutual
inductive S where
  | asg (t : Tg) (e : E) | asm (i : Nat) (e : E)
  | app (i : Nat) (e : E) | ext (i : Nat) (e : E) | ins (i : Nat) (e e' : E) | put (i : Nat) (k v : E) | setd (i : Nat) (k v : E) | grp (i : Nat) (k e : E) | popapp (i j : Nat) (e : E)
  | ex (e : E) | ret (e : E) | retn | ife (c : E) (a b : Ss) | for_ (fz : List Nat) (t : Tg) (it : I) (b : Ss) | whl (c : E) (b : Ss)
  | raise (c : List Nat) (es : Es) | try_ (b : S) (c : List Nat) (h : Ss) | pass
inductive Ss where
  | nil | cons (s : S) (ss : Ss)
end

/-! ### places -/
inductive Slot where
  | no | val (d : D) | ml (ds : List D) | md (kvs : List (D × D))
abbrev Env := List Slot
def getS : Env → Nat → Slot
  | [], _ => .no
  | s :: _, 0 => s
  | _ :: r, i + 1 => getS r i
def setS : Env → Nat → Slot → Env
  | [], _, _ => []
  | _ :: r, 0, x => x :: r
  | s :: r, i + 1, x => s :: setS r i x
def varD : Slot → R D
  | .val d => .ok d
  | _ => .bad
def mvarD : Slot → R D
  | .val d => .ok d
  | .ml ds => .ok (.lst ds)
  | .md kvs => .ok (.dct kvs)
  | .no => .bad
mutual
def setT : Tg → D → Env → R Env
  | .nm i, d, env => .ok (setS env i (.val d))
  | .tp ts, d, env => match d with
    | .tup ds => setTs ts ds env
    | _ => .bad
def setTs : Tgs → List D → Env → R Env
  | .nil, ds, env => match ds with
    | [] => .ok env
    | _ => .bad
  | .cons t ts, ds, env => match ds with
    | [] => .bad
    | d :: r => (setT t d env).bind fun env' => setTs ts r env'
end

/-! ### the evaluator: F tells what a call gives -/
def consO : Option D → List D → List D
  | some x, xs => x :: xs
  | none, xs => xs
def compD (f : D → R (Option D)) : List D → R (List D)
  | [] => .ok []
  | d :: r => (f d).bindB fun o => (compD f r).bindB fun xs => .ok (consO o xs)
def enumD : List D → Nat → List D
  | [], _ => []
  | d :: r, k => .tup [.int k, d] :: enumD r (k + 1)
def zipD : List D → List D → List D
  | a :: r, b :: s => .tup [a, b] :: zipD r s
  | _, _ => []
def rngD (lo : Int) : Nat → List D
  | 0 => []
  | k + 1 => .int lo :: rngD (lo + 1) k
def rng1R : D → R (List D)
  | .int j => if -(LN : Int) ≤ j ∧ j ≤ LN then .ok (rngD 0 j.toNat) else .bad
  | _ => .bad
def rng2R : D → D → R (List D)
  | .int i, .int j => if -(LN : Int) ≤ i ∧ i ≤ LN ∧ -(LN : Int) ≤ j ∧ j ≤ LN ∧ (j - i).toNat ≤ LN then .ok (rngD i (j - i).toNat) else .bad
  | _, _ => .bad
def pairUp : List D → List D → List (D × D)
  | a :: r, b :: s => (a, b) :: pairUp r s
  | _, _ => []
section
variable (F : Nat → List D → R D)
mutual
def evE : E → Env → R D
  | .lit d, _ => .ok d
  | .glo d, _ => .ok d
  | .var i, env => varD (getS env i)
  | .mvar i, env => mvarD (getS env i)
  | .tup es, env => (evEs es env).bind fun ds => .ok (.tup ds)
  | .lst es, env => (evEs es env).bind fun ds => .ok (.lst ds)
  | .dsp ks vs, env => (evEs ks env).bind fun as => (evEs vs env).bind fun bs => dictOf (pairUp as bs)
  | .call f es, env => (evEs es env).bind fun ds => F f ds
  | .op1 o a, env => (evE a env).bind fun x => do1 o x
  | .op2 o a b, env => (evE a env).bind fun x => (evE b env).bind fun y => do2 o x y
  | .op3 o a b c, env => (evE a env).bind fun x => (evE b env).bind fun y => (pre3 o y).bind fun _ => (evE c env).bind fun z => do3 o x y z
  | .m1 o a b, env => (evE a env).bind fun x => (preM x o).bind fun _ => (evE b env).bind fun y => do2 o x y
  | .m2 o a b c, env => (evE a env).bind fun x => (preM2 x o).bind fun _ => (evE b env).bind fun y => (evE c env).bind fun z => do3 o x y z
  | .and a b, env => (evE a env).bind fun x => (truthD x).bind fun t => if t then evE b env else .ok x
  | .or a b, env => (evE a env).bind fun x => (truthD x).bind fun t => if t then .ok x else evE b env
  | .not a, env => (evE a env).bind fun x => (truthD x).bind fun t => .ok (.bl !t)
  | .ite c a b, env => (evE c env).bind fun x => (truthD x).bind fun t => if t then evE a env else evE b env
  | .chain o o' a b c, env => (evE a env).bind fun x => (evE b env).bind fun y => (do2 o x y).bind fun r => (truthD r).bind fun t => if t then (evE c env).bind fun z => do2 o' y z else .ok r
  | .comp elt tg it cs, env => (evI it env).bind fun ds =>
      (compD (fun d => (setT tg d env).bind fun env' => (evC cs env').bind fun t => if t then (evE elt env').bind fun x => .ok (some x) else .ok none) ds).bind fun xs => .ok (.lst xs)
def evEs : Es → Env → R (List D)
  | .nil, _ => .ok []
  | .cons e es, env => (evE e env).bind fun d => (evEs es env).bind fun ds => .ok (d :: ds)
/-- tests of a comprehension: none or one -/
def evC : Es → Env → R Bool
  | .nil, _ => .ok true
  | .cons e _, env => (evE e env).bind fun x => truthD x
def evI : I → Env → R (List D)
  | .of e, env => (evE e env).bind iterD
  | .rng a, env => (evE a env).bind rng1R
  | .rng2 a b, env => (evE a env).bind fun x => (evE b env).bind fun y => rng2R x y
  | .enum a, env => (evE a env).bind fun x => (iterD x).bind fun ds => .ok (enumD ds 0)
  | .zip a b, env => (evE a env).bind fun x => (evE b env).bind fun y => (iterD x).bind fun xs => (iterD y).bind fun ys => .ok (zipD xs ys)
  | .rev a, env => (evE a env).bind fun x => (iterD x).bind fun ds => .ok ds.reverse
end
end

inductive Out where
  | nx (env : Env) | rt (d : D)
def forD (f : Env → D → R Out) : List D → Env → R Out
  | [], env => .ok (.nx env)
  | d :: r, env => (f env d).bind fun o => match o with
    | .nx env' => forD f r env'
    | .rt x => .ok (.rt x)
def whileD (c : Env → R Bool) (b : Env → R Out) : Nat → Env → R Out
  | 0, _ => .bad
  | k + 1, env => (c env).bind fun t => if t then (b env).bind fun o => match o with
      | .nx env' => whileD c b k env'
      | .rt x => .ok (.rt x)
    else .ok (.nx env)
/-- more turns than any while takes -/
def WF : Nat := 1000000000
/-- a place's list is no more changed -/
def frz1 : Slot → Slot
  | .ml ds => .val (.lst ds)
  | .md kvs => .val (.dct kvs)
  | s => s
def frzE : List Nat → Env → Env
  | [], env => env
  | i :: r, env => frzE r (setS env i (frz1 (getS env i)))
/-- is what comes of it a new list or dict -/
def isFresh : E → Bool
  | .lst _ => true
  | .dsp _ _ => true
  | .comp _ _ _ _ => true
  | .op1 .list _ => true
  | .op2 .add _ _ => true
  | .op2 .mul _ _ => true
  | .op3 .slice _ _ _ => true
  | .op2 .cutf _ _ => true
  | .op2 .cutt _ _ => true
  | _ => false
def mslot : D → R Slot
  | .lst ds => .ok (.ml ds)
  | .dct kvs => .ok (.md kvs)
  | _ => .bad
/-- is a list (a dict) of the frame's own there -/
def preL : Slot → R Unit
  | .ml _ => .ok ()
  | _ => .bad
def preDc : Slot → R Unit
  | .md _ => .ok ()
  | _ => .bad
def appS (s : Slot) (d : D) : R Slot := match s with
  | .ml ds => if ds.length < LN then .ok (.ml (ds ++ [d])) else .bad
  | _ => .bad
def extS (s : Slot) (d : D) : R Slot := match s, d with
  | .ml ds, .lst es => if ds.length + es.length ≤ LN then .ok (.ml (ds ++ es)) else .bad
  | _, _ => .bad
def insAt (ds : List D) (k : Nat) (d : D) : List D := ds.take k ++ d :: ds.drop k
def insS (s : Slot) (i d : D) : R Slot := match s, i with
  | .ml ds, .int k => if ds.length < LN ∧ 0 ≤ k ∧ k ≤ ds.length then .ok (.ml (insAt ds k.toNat d)) else .bad
  | _, _ => .bad
def putS (s : Slot) (k v : D) : R Slot := match s with
  | .md kvs => if keyOk kvs k ∧ kvs.length < LN then .ok (.md (putD kvs k v)) else .bad
  | _ => .bad
def setdS (s : Slot) (k v : D) : R Slot := match s with
  | .md kvs => if keyOk kvs k ∧ kvs.length < LN then .ok (.md (if (lookD kvs k).isSome then kvs else putD kvs k v)) else .bad
  | _ => .bad
/-- d.setdefault(k, []).append(v) -/
def grpS (s : Slot) (k v : D) : R Slot := match s with
  | .md kvs => if keyOk kvs k ∧ kvs.length < LN then (match lookD kvs k with
      | none => .ok (.md (putD kvs k (.lst [v])))
      | some (.lst ds) => if ds.length < LN then .ok (.md (putD kvs k (.lst (ds ++ [v])))) else .bad
      | some _ => .bad) else .bad
  | _ => .bad
def popS (s : Slot) (i : D) : R (Slot × D) := match s, i with
  | .ml ds, .int k => ofO (ixI ds.length k) fun j => ofO (nthD ds j) fun d => .ok (.ml (ds.eraseIdx j), d)
  | _, _ => .bad
section
variable (F : Nat → List D → R D)
mutual
def evS : S → Env → R Out
  | .asg t e, env => (evE F e env).bind fun d => (setT t d env).bind fun env' => .ok (.nx env')
  | .asm i e, env => (evE F e env).bind fun d => (mslot d).bind fun s => .ok (.nx (setS env i s))
  | .app i e, env => (preL (getS env i)).bind fun _ => (evE F e env).bind fun d => (appS (getS env i) d).bind fun s => .ok (.nx (setS env i s))
  | .ext i e, env => (preL (getS env i)).bind fun _ => (evE F e env).bind fun d => (extS (getS env i) d).bind fun s => .ok (.nx (setS env i s))
  | .ins i e e', env => (preL (getS env i)).bind fun _ => (evE F e env).bind fun k => (evE F e' env).bind fun d => (insS (getS env i) k d).bind fun s => .ok (.nx (setS env i s))
  | .put i k v, env => (evE F v env).bind fun d => (evE F k env).bind fun x => (putS (getS env i) x d).bind fun s => .ok (.nx (setS env i s))
  | .setd i k v, env => (preDc (getS env i)).bind fun _ => (evE F k env).bind fun x => (evE F v env).bind fun d => (setdS (getS env i) x d).bind fun s => .ok (.nx (setS env i s))
  | .grp i k v, env => (preDc (getS env i)).bind fun _ => (evE F k env).bind fun x => (evE F v env).bind fun d => (grpS (getS env i) x d).bind fun s => .ok (.nx (setS env i s))
  | .popapp i j e, env => (preL (getS env i)).bind fun _ => (preL (getS env j)).bind fun _ => (evE F e env).bind fun k => (popS (getS env j) k).bind fun p => (appS (getS (setS env j p.1) i) p.2).bind fun s => .ok (.nx (setS (setS env j p.1) i s))
  | .ex e, env => (evE F e env).bind fun _ => .ok (.nx env)
  | .ret e, env => (evE F e env).bind fun d => .ok (.rt d)
  | .retn, _ => .ok (.rt .non)
  | .ife c a b, env => (evE F c env).bind fun x => (truthD x).bind fun t => if t then evSs a env else evSs b env
  | .for_ fz t it b, env => (evI F it (frzE fz env)).bind fun ds => forD (fun env' d => (setT t d env').bind fun env2 => evSs b env2) ds (frzE fz env)
  | .whl c b, env => whileD (fun env' => (evE F c env').bind fun x => truthD x) (fun env' => evSs b env') WF env
  | .raise c es, env => (evEs F es env).bind fun ds => .exc c ds
  | .try_ b c h, env => match evS b env with
    | .exc c' as => if c = c' then evSs h (env ++ as.map .val) else .exc c' as
    | r => r
  | .pass, env => .ok (.nx env)
def evSs : Ss → Env → R Out
  | .nil, env => .ok (.nx env)
  | .cons s ss, env => (evS s env).bind fun o => match o with
    | .nx env' => evSs ss env'
    | .rt d => .ok (.rt d)
end
end

/-- a def: how many parameters, how many places, the body -/
structure Fn where
  np : Nat
  nl : Nat
  body : Ss
def startE (fn : Fn) (args : List D) : Env := args.map .val ++ List.replicate (fn.nl - args.length) .no
def runF (F : Nat → List D → R D) (fn : Fn) (args : List D) : R D :=
  if args.length = fn.np then (evSs F fn.body (startE fn args)).bind fun o => match o with
    | .rt d => .ok d
    | .nx _ => .ok .non
  else .bad
/-- a call, at most n within one another -/
def callN (T : Nat → Option Fn) : Nat → Nat → List D → R D
  | 0, _, _ => .bad
  | n + 1, f, args => ofO (T f) fun fn => runF (callN T n) fn args
theorem callN_succ (T : Nat → Option Fn) (n f : Nat) (args : List D) : callN T (n + 1) f args = ofO (T f) fun fn => runF (callN T n) fn args := rfl

/-! ### how clean a value is: clean: nothing of the frame's own lists and dicts within; top: itself perhaps; leaky: perhaps -/
inductive Cls where
  | clean | top | leaky
  deriving DecidableEq
/-- the class of what is made of the parts -/
def Cls.der : Cls → Cls
  | .leaky => .leaky
  | _ => .clean
def Cls.join : Cls → Cls → Cls
  | .leaky, _ => .leaky
  | _, .leaky => .leaky
  | _, _ => .clean
/-- the class of what is one of both -/
def Cls.max : Cls → Cls → Cls
  | .leaky, _ => .leaky
  | _, .leaky => .leaky
  | .top, _ => .top
  | _, .top => .top
  | _, _ => .clean
/-- the class of an argument list -/
def Cls.arg (c cs : Cls) : Cls := match c, cs with
  | .clean, .clean => .clean
  | _, _ => .leaky
end TQ

/-! DT: from the text's trees to the small language. Nothing is proved of it here. -/
namespace TQ
open PySem (Str Expr Stmt Scope NameKind Const Pos CmpOp Operator UnaryOp BoolOp Comprehension)

def nEq : List Nat → List Nat → Bool
  | [], [] => true
  | a :: as, b :: bs => Nat.beq a b && nEq as bs
  | _, _ => false
def sEq (a b : Str) : Bool := nEq a.cps.toList b.cps.toList
def fl {α : Type} : List (Str × α) → Str → Option α
  | [], _ => none
  | (k, v) :: r, x => if sEq x k then some v else fl r x
def ixOf : List Str → Str → Nat → Option Nat
  | [], _, _ => none
  | y :: r, x, i => if sEq y x then some i else ixOf r x (i + 1)
def memS (x : Str) : List Str → Bool
  | [] => false
  | y :: r => sEq y x || memS x r

/-- what is told of the text: its defs' ids, its constants, the builtins' names that it leaves alone -/
structure TC where
  nm : List (Str × Nat)
  cm : List (Str × D)
  fr : List Str
/-- .. and of a def: its places, those of them that are changed in place -/
structure TD where
  N : List Str
  mu : List Nat

def isVis (sc : Scope) (x : Str) : Bool := match fl sc.names x with
  | some .local => true
  | some .cell => true
  | some .free => true
  | _ => false
def isGl (sc : Scope) (x : Str) : Bool := match fl sc.names x with
  | some .globalImplicit => true
  | _ => false
def isLoc (sc : Scope) (x : Str) : Bool := match fl sc.names x with
  | some .local => true
  | _ => false
/-- the scope of a comprehension's block within sc (the model's own) -/
def relT (scope sc : Scope) : Scope :=
  { scope with names := scope.names.map fun (n, k) => if (k == .free && sc.kind == .function && sc.names.lookup n == some .cell) then (n, .cell) else (n, k) }

/-- trees that may stand as a part -/
def okE : Expr → Bool
  | .BoolOp .. => true
  | .BinOp .. => true
  | .UnaryOp .. => true
  | .IfExp .. => true
  | .Dict .. => true
  | .ListComp .. => true
  | .Compare .. => true
  | .Call _ (_ :: _) _ _ => true
  | .Call (.Attribute ..) [] _ _ => true
  | .Constant .. => true
  | .Attribute .. => true
  | .Subscript .. => true
  | .Name .. => true
  | .List .. => true
  | .Tuple .. => true
  | _ => false

def trL (f : Expr → Option E) : List Expr → Option Es
  | [] => some .nil
  | e :: es => (f e).bind fun a => (trL f es).bind fun as => some (.cons a as)

def constD : Const → Option D
  | .none => some .non
  | .bool b => some (.bl b)
  | .int i => some (.int i)
  | .str s => if s.cps.toList.all (· < 0x110000) && decide (s.cps.toList.length ≤ LN) then some (.str s.cps.toList) else none
  | _ => none
def binO : Operator → Option O2
  | .Add => some .add
  | .Sub => some .sub
  | .Mult => some .mul
  | .Mod => some .mod
  | .FloorDiv => some .fdiv
  | .Pow => some .pow
  | _ => none
def cmpO : CmpOp → Option O2
  | .Eq => some .eq
  | .NotEq => some .ne
  | .Lt => some .lt
  | .LtE => some .le
  | .Gt => some .gt
  | .GtE => some .ge
  | .Is => some .is_
  | .IsNot => some .isnot
  | .In => some .in_
  | .NotIn => some .notin
def tyO (x : Str) : Option Ty :=
  if sEq x "str" then some .str else if sEq x "int" then some .int else if sEq x "bool" then some .bool else if sEq x "tuple" then some .tuple else if sEq x "list" then some .list else none
/-- builtins of one argument -/
def bi1 (x : Str) : Option O1 :=
  if sEq x "len" then some .len else if sEq x "all" then some .all else if sEq x "any" then some .any else if sEq x "int" then some .int
  else if sEq x "list" then some .list else if sEq x "tuple" then some .tuple else if sEq x "sum" then some .sum else none
def bi2 (x : Str) : Option O2 :=
  if sEq x "max" then some .max2 else if sEq x "min" then some .min2 else none

def andE : List E → Option E
  | [] => none
  | [a] => some a
  | a :: r => (andE r).map (.and a)
def orE : List E → Option E
  | [] => none
  | [a] => some a
  | a :: r => (orE r).map (.or a)
def listE : Es → List E
  | .nil => []
  | .cons e es => e :: listE es

/-- a target: names -/
def trT (N : List Str) (mu : List Nat) : Nat → Expr → Option Tg
  | 0, _ => none
  | n + 1, e => match e with
    | .Name x _ => (ixOf N x 0).bind fun i => if mu.contains i then none else some (.nm i)
    | .Tuple es _ _ => ((es.foldr (fun e r => (trT N mu n e).bind fun t => r.bind fun ts => some (Tgs.cons t ts)) (some .nil))).map .tp
    | _ => none
/-- the names of a target, with their places -/
def namesT (N : List Str) : Nat → Expr → Option (List (Str × Nat))
  | 0, _ => none
  | n + 1, e => match e with
    | .Name x _ => (ixOf N x 0).map fun i => [(x, i)]
    | .Tuple es _ _ => es.foldr (fun e r => (namesT N n e).bind fun a => r.bind fun b => some (a ++ b)) (some [])
    | _ => none
/-- may a name be stored in this block -/
def storeOk (scope : Scope) (x : Str) : Bool := match fl scope.names x with
  | some .local => true
  | some .cell => true
  | _ => false

def mvE (mu : List Nat) (i : Nat) : E := if mu.contains i then .mvar i else .var i

mutual
/-- how clean an expression's value is -/
def clE : E → Cls
  | .lit _ => .clean
  | .glo _ => .clean
  | .var _ => .clean
  | .mvar _ => .top
  | .tup es => clEs es
  | .lst es => clEs es
  | .dsp ks vs => (clEs ks).join (clEs vs)
  | .call _ es => clEs es
  | .op1 o a => match o with
    | .list => (clE a).der
    | .tuple => (clE a).der
    | .rev => (clE a).der
    | .dict => (clE a).der
    | .max => (clE a).der
    | .min => (clE a).der
    | _ => .clean
  | .op2 o a b => match o with
    | .add => (clE a).join (clE b)
    | .mul => (clE a).join (clE b)
    | .sub => (clE a).join (clE b)
    | .mod => (clE a).join (clE b)
    | .fdiv => (clE a).join (clE b)
    | .pow => (clE a).join (clE b)
    | .ix => (clE a).der
    | .cutf => (clE a).der
    | .cutt => (clE a).der
    | .dzip => (clE a).join (clE b)
    | _ => .clean
  | .op3 _ a _ _ => (clE a).der
  | .m1 _ _ _ => .clean
  | .m2 o a _ c => match o with
    | .get => (clE c).arg (clE a).der
    | _ => .clean
  | .and a b => (clE a).max (clE b)
  | .or a b => (clE a).max (clE b)
  | .not _ => .clean
  | .ite _ a b => (clE a).max (clE b)
  | .chain _ _ _ _ _ => .clean
  | .comp elt _ _ _ => (clE elt).arg .clean
/-- of an argument list -/
def clEs : Es → Cls
  | .nil => .clean
  | .cons e es => (clE e).arg (clEs es)
end
def clI : I → Cls
  | .of e => clE e
  | .rng _ => .clean
  | .rng2 _ _ => .clean
  | .enum a => clE a
  | .zip a b => (clE a).join (clE b)
  | .rev a => clE a
def notLeaky : Cls → Bool
  | .leaky => false
  | _ => true

def isFree : NameKind → Bool
  | .free => true
  | _ => false
def isOwn : NameKind → Bool
  | .local => true
  | .cell => true
  | _ => false
def kEq : NameKind → NameKind → Bool
  | .local, .local => true
  | .cell, .cell => true
  | .free, .free => true
  | .globalExplicit, .globalExplicit => true
  | .globalImplicit, .globalImplicit => true
  | _, _ => false
def isCF (sc : Scope) (x : Str) : Bool := match fl sc.names x with
  | some .cell => true
  | some .free => true
  | _ => false
def isFunc : PySem.ScopeKind → Bool
  | .function => true
  | _ => false
/-- a comprehension's block in its place -/
def blkB (N : List Str) (sc scope : Scope) (own : List (Str × Nat)) : Bool := isFunc scope.kind &&
  scope.names.all fun y => (match fl scope.names y.1 with | some k => kEq k y.2 | none => false) && (!isFree y.2 || isCF sc y.1) && (!isOwn y.2 || memS y.1 (own.map (·.1)) || !memS y.1 N)
section
variable (C : TC) (T : TD)
/-- a walk's source; f translates its parts -/
def trI (f : Expr → Option E) (sc : Scope) (e : Expr) : Option I := match e with
  | .Call (.Name x _) [a] [] _ =>
    if isGl sc x && memS x C.fr && sEq x "range" then (f a).map .rng
    else (f e).map .of
  | .Call (.Name x _) [a, b] [] _ =>
    if isGl sc x && memS x C.fr && sEq x "range" then (f a).bind fun p => (f b).map fun q => .rng2 p q
    else (f e).map .of
  | _ => (f e).map .of
def tr : Nat → Scope → Expr → Option E
  | 0, _, _ => none
  | n + 1, sc, e => if okE e then (match e with
    | .Constant c _ _ => (constD c).map .lit
    | .Name x _ =>
      if sEq x "__debug__" || sEq x "__classdict__" then none
      else if isVis sc x then (ixOf T.N x 0).map (mvE T.mu)
      else if isGl sc x then (fl C.cm x).map .glo
      else none
    | .Tuple es _ _ => if es.length ≤ 1000 then (trL (tr n sc) es).map .tup else none
    | .List es _ => if es.length ≤ 1000 then (trL (tr n sc) es).map .lst else none
    | .BinOp a op b _ => (binO op).bind fun o => (tr n sc a).bind fun x => (tr n sc b).map fun y => .op2 o x y
    | .UnaryOp .USub a _ => (tr n sc a).map (.op1 .neg)
    | .UnaryOp .Not a _ => (tr n sc a).map .not
    | .BoolOp .And es _ => (trL (tr n sc) es).bind fun as => andE (listE as)
    | .BoolOp .Or es _ => (trL (tr n sc) es).bind fun as => orE (listE as)
    | .IfExp c a b _ => (tr n sc c).bind fun x => (tr n sc a).bind fun y => (tr n sc b).map fun z => .ite x y z
    | .Compare a [op] [b] _ => (cmpO op).bind fun o => (tr n sc a).bind fun x => (tr n sc b).map fun y => .op2 o x y
    | .Compare a [op, op'] [b, c] _ => (cmpO op).bind fun o => (cmpO op').bind fun o' => (tr n sc a).bind fun x => (tr n sc b).bind fun y => (tr n sc c).map fun z => .chain o o' x y z
    | .Subscript a (.Slice none none (some (.UnaryOp .USub (.Constant (.int 1) _ _) _)) _) _ => none
    | .Subscript a (.Slice lo hi none _) _ => (match lo, hi with
      | some l, some h => (tr n sc a).bind fun x => (tr n sc l).bind fun y => (tr n sc h).map fun z => .op3 .slice x y z
      | some l, none => (tr n sc a).bind fun x => (tr n sc l).map fun y => .op2 .cutf x y
      | none, some h => (tr n sc a).bind fun x => (tr n sc h).map fun y => .op2 .cutt x y
      | none, none => none)
    | .Subscript a b _ => (tr n sc a).bind fun x => (tr n sc b).map fun y => .op2 .ix x y
    | .Call (.Name x _) es [] _ =>
      if isGl sc x && !sEq x "__debug__" then (match fl C.nm x with
        | some f => (trL (tr n sc) es).map (.call f)
        | none => if memS x C.fr then (match es with
          | [a] => (bi1 x).bind fun o => (tr n sc a).map (.op1 o)
          | [a, b] => if sEq x "isinstance" then (match b with
              | .Name t _ => if isGl sc t && memS t C.fr then (tyO t).bind fun ty => (tr n sc a).map (.op1 (.isi ty)) else none
              | _ => none)
            else (bi2 x).bind fun o => (tr n sc a).bind fun p => (tr n sc b).map fun q => .op2 o p q
          | _ => none) else none)
      else none
    | .Call (.Attribute o m apos) [a] [] pos =>
      if apos.endLine == pos.line then (
        if sEq m "join" then (tr n sc o).bind fun x => (tr n sc a).map fun y => .m1 .join x y
        else none) else none
    | .ListComp elt [⟨tg, iter, ifs, 0⟩] scope _ =>
      (namesT T.N 9 tg).bind fun own =>
      if own.all (fun p => storeOk scope p.1) && blkB T.N sc scope own then
      (trI C (tr n sc) sc iter).bind fun it => (trT T.N [] 9 tg).bind fun t =>
      (match ifs with
        | [] => some Es.nil
        | [c] => (tr n (relT scope sc) c).map fun x => Es.cons x .nil
        | _ => none).bind fun cs => (tr n (relT scope sc) elt).bind fun x => if notLeaky (clI it) then some (.comp x t it cs) else none
      else none
    | _ => none) else none

/-! ### statements -/
def trLS (f : Stmt → Option S) : List Stmt → Option Ss
  | [] => some .nil
  | e :: es => (f e).bind fun a => (trLS f es).bind fun as => some (.cons a as)
def isClean : Cls → Bool
  | .clean => true
  | _ => false
/-- the places of a source that are changed elsewhere: frozen -/
def fzE (N : List Str) (mu : List Nat) : Nat → Expr → List Nat
  | 0, _ => []
  | n + 1, e => match e with
    | .Name x _ => match ixOf N x 0 with
      | some i => if mu.contains i then [i] else []
      | none => []
    | .Call _ es _ _ => es.flatMap (fzE N mu n)
    | .Subscript a _ _ => fzE N mu n a
    | _ => []
def TD.less (T : TD) (fz : List Nat) : TD := ⟨T.N, T.mu.filter fun i => !fz.contains i⟩
/-- is a made list or dict new -/
def fresh1 : Expr → Bool
  | .List .. => true
  | .ListComp .. => true
  | _ => false
section
variable (C : TC) (T : TD)
def trS : Nat → Scope → Stmt → Option S
  | 0, _, _ => none
  | n + 1, sc, st => match st with
    | .Return (some e) _ => (tr C T n sc e).map .ret
    | .Return none _ => some .retn
    | .Pass _ => some .pass
    | .If c a b _ => (tr C T n sc c).bind fun x => (trLS (trS n sc) a).bind fun y => (trLS (trS n sc) b).map fun z => .ife x y z
    | .While c b [] _ => (tr C T n sc c).bind fun x => (trLS (trS n sc) b).map fun y => .whl x y
    | .For tg it b [] _ =>
      (namesT T.N 9 tg).bind fun own => if own.all (fun p => storeOk sc p.1) then
      (trI C (tr C (T.less (fzE T.N T.mu 9 it)) n sc) sc it).bind fun i => (trT T.N T.mu 9 tg).bind fun t => (trLS (trS n sc) b).bind fun y =>
        if isClean (clI i) then some (.for_ (fzE T.N T.mu 9 it) t i y) else none
      else none
    | .Assign [.Name x _] e _ => if storeOk sc x then (tr C T n sc e).bind fun y => (ixOf T.N x 0).bind fun i =>
        if isClean (clE y) then (if T.mu.contains i && fresh1 e then some (.asm i y) else some (.asg (.nm i) y)) else none
      else none
    | .Assign [.Tuple ts k p] e _ => (match e with
      | .Tuple .. => none
      | .ListComp .. => none
      | _ => (namesT T.N 9 (.Tuple ts k p)).bind fun own => if own.all (fun p => storeOk sc p.1) then
        (tr C T n sc e).bind fun y => (trT T.N T.mu 9 (.Tuple ts k p)).bind fun t => if isClean (clE y) then some (.asg t y) else none
        else none)
    | .Expr (.Call (.Attribute (.Name x _) m apos) [a] [] cpos) _ =>
      if apos.endLine == cpos.line && isVis sc x && !sEq x "__debug__" && !sEq x "__classdict__" then (ixOf T.N x 0).bind fun i =>
        if sEq m "append" then (tr C T n sc a).bind fun y => if isClean (clE y) then some (.app i y) else none
        else if sEq m "extend" then (tr C T n sc a).bind fun y => if isClean (clE y) then some (.ext i y) else none
        else none
      else none
    | _ => none
/-- a def's body -/
def trB (sc : Scope) (body : List Stmt) : Option Ss := trLS (trS C T 99 sc) body
end
end
end TQ

/-! DS1: how plain data stand in the abstract heap; places of a frame. -/
namespace TQ
open PySem PySem.Spec PyProof.Rows L2

theorem LN_eq : LN = sizeLine := by rw [sizeLine_eq]; rfl
/-- a text as the model has it -/
abbrev toS (x : List Nat) : Str := ⟨x.toArray⟩
/-- a text that may stand -/
def okS (x : List Nat) : Prop := x.length ≤ LN ∧ ∀ c ∈ x, c < 0x110000
theorem okS.append {x y : List Nat} (h : okS x) (h' : okS y) (hl : x.length + y.length ≤ LN) : okS (x ++ y) :=
  ⟨by rw [List.length_append]; exact hl, fun c hc => (List.mem_append.mp hc).elim (h.2 c) (h'.2 c)⟩
theorem okS.sub {x y : List Nat} (h : okS x) (hl : y.length ≤ x.length) (hs : ∀ c ∈ y, c ∈ x) : okS y := ⟨Nat.le_trans hl h.1, fun c hc => h.2 c (hs c hc)⟩

/-- a dict's key -/
def kD : Key → D
  | .inl i => .int i
  | .inr x => .str x.cps.toList

mutual
inductive Rep (K : PySem.W.Frag) (H : Hp) : V → D → Prop
  | non : Rep K H .non .non
  | bl (b : Bool) : Rep K H (.bl b) (.bl b)
  | int (i : Int) : Rep K H (.int i) (.int i)
  | str {x : List Nat} : okS x → Rep K H (.str (toS x)) (.str x)
  | tup {a : Addr} {vs : List V} {ds : List D} : SqT K H a vs → Reps K H vs ds → Rep K H (.ref a) (.tup ds)
  | lst {a : Addr} {vs : List V} {ds : List D} : H a = some (.lst vs) → Reps K H vs ds → Rep K H (.ref a) (.lst ds)
  | scr {a : Addr} {ns : List Int} : SqL K H a (ns.map V.int) → Rep K H (.ref a) (.scr ns)
  | dct {a : Addr} {kvs : List (Key × V)} {ds : List (D × D)} : Rd H a (.dK kvs) → RepK K H kvs ds → Rep K H (.ref a) (.dct ds)
inductive Reps (K : PySem.W.Frag) (H : Hp) : List V → List D → Prop
  | nil : Reps K H [] []
  | cons {v : V} {vs : List V} {d : D} {ds : List D} : Rep K H v d → Reps K H vs ds → Reps K H (v :: vs) (d :: ds)
/-- a dict's pairs: keys are texts and whole numbers -/
inductive RepK (K : PySem.W.Frag) (H : Hp) : List (Key × V) → List (D × D) → Prop
  | nil : RepK K H [] []
  | cons {k : Key} {v : V} {kvs : List (Key × V)} {d : D} {ds : List (D × D)} : Rep K H (kV k) (kD k) → Rep K H v d → RepK K H kvs ds → RepK K H ((k, v) :: kvs) ((kD k, d) :: ds)
end

/-- all that stands stands on -/
def Ext (H H' : Hp) : Prop := ∀ a o, H a = some o → H' a = some o
theorem Ext.refl {H : Hp} : Ext H H := fun _ _ h => h
theorem Ext.trans {H H1 H2 : Hp} (h : Ext H H1) (h' : Ext H1 H2) : Ext H H2 := fun a o e => h' a o (h a o e)
theorem Ext.new {H : Hp} {p : Addr} {o : HO} (h : H p = none) : Ext H (upd H p o) := fun a u e => by
  rw [upd_ne (ne_of_none e h)]; exact e
/-- what Rep looks at stands on -/
structure Le (H H' : Hp) : Prop where
  lst : ∀ a xs, H a = some (.lst xs) → H' a = some (.lst xs)
  rd : ∀ a u, Rd H a u → Rd H' a u
theorem Ext.le {H H' : Hp} (h : Ext H H') : Le H H' := ⟨fun a xs e => h a _ e, fun a u e => by
  rcases e with e | ⟨o, e⟩
  · exact .inl (h a _ e)
  · exact .inr ⟨o, h a _ e⟩⟩
theorem Le.trans {H H1 H2 : Hp} (h : Le H H1) (h' : Le H1 H2) : Le H H2 := ⟨fun a xs e => h'.lst a xs (h.lst a xs e), fun a u e => h'.rd a u (h.rd a u e)⟩
theorem Le.refl {H : Hp} : Le H H := Ext.le Ext.refl
theorem Le.sqt {K : PySem.W.Frag} {H H' : Hp} {a : Addr} {xs : List V} (l : Le H H') (h : SqT K H a xs) : SqT K H' a xs := h.elim (fun h => .inl (l.rd a _ h)) .inr
theorem Le.sql {K : PySem.W.Frag} {H H' : Hp} {a : Addr} {xs : List V} (l : Le H H') (h : SqL K H a xs) : SqL K H' a xs := h.elim (fun h => .inl (l.rd a _ h)) .inr
mutual
theorem Rep.mono {K : PySem.W.Frag} {H H' : Hp} (l : Le H H') : ∀ {v : V} {d : D}, Rep K H v d → Rep K H' v d
  | _, _, .non => .non
  | _, _, .bl b => .bl b
  | _, _, .int i => .int i
  | _, _, .str h => .str h
  | _, _, .tup h r => .tup (l.sqt h) (Reps.mono l r)
  | _, _, .lst h r => .lst (l.lst _ _ h) (Reps.mono l r)
  | _, _, .scr h => .scr (l.sql h)
  | _, _, .dct h r => .dct (l.rd _ _ h) (RepK.mono l r)
theorem Reps.mono {K : PySem.W.Frag} {H H' : Hp} (l : Le H H') : ∀ {vs : List V} {ds : List D}, Reps K H vs ds → Reps K H' vs ds
  | _, _, .nil => .nil
  | _, _, .cons h t => .cons (Rep.mono l h) (Reps.mono l t)
theorem RepK.mono {K : PySem.W.Frag} {H H' : Hp} (l : Le H H') : ∀ {vs : List (Key × V)} {ds : List (D × D)}, RepK K H vs ds → RepK K H' vs ds
  | _, _, .nil => .nil
  | _, _, .cons k h t => .cons (Rep.mono l k) (Rep.mono l h) (RepK.mono l t)
end
theorem Reps.length {K : PySem.W.Frag} {H : Hp} : ∀ {vs : List V} {ds : List D}, Reps K H vs ds → vs.length = ds.length
  | _, _, .nil => rfl
  | _, _, .cons _ t => by rw [List.length_cons, List.length_cons, Reps.length t]
theorem RepK.length {K : PySem.W.Frag} {H : Hp} : ∀ {vs : List (Key × V)} {ds : List (D × D)}, RepK K H vs ds → vs.length = ds.length
  | _, _, .nil => rfl
  | _, _, .cons _ _ t => by rw [List.length_cons, List.length_cons, RepK.length t]
theorem Reps.append {K : PySem.W.Frag} {H : Hp} : ∀ {vs ws : List V} {ds es : List D}, Reps K H vs ds → Reps K H ws es → Reps K H (vs ++ ws) (ds ++ es)
  | _, _, _, _, .nil, h => h
  | _, _, _, _, .cons r t, h => .cons r (Reps.append t h)
theorem Reps.get {K : PySem.W.Frag} {H : Hp} : ∀ {vs : List V} {ds : List D} {i : Nat} {d : D}, Reps K H vs ds → ds[i]? = some d → ∃ v, vs[i]? = some v ∧ Rep K H v d
  | _, _, i, d, .nil, h => by simp at h
  | _, _, 0, d, .cons r t, h => by simp at h; subst h; exact ⟨_, rfl, r⟩
  | _, _, i + 1, d, .cons r t, h => by
    obtain ⟨v, h1, h2⟩ := Reps.get (i := i) t (by simpa using h)
    exact ⟨v, by simpa using h1, h2⟩
theorem Reps.get' {K : PySem.W.Frag} {H : Hp} : ∀ {vs : List V} {ds : List D} {i : Nat} {v : V}, Reps K H vs ds → vs[i]? = some v → ∃ d, ds[i]? = some d ∧ Rep K H v d
  | _, _, i, d, .nil, h => by simp at h
  | _, _, 0, d, .cons r t, h => by simp at h; subst h; exact ⟨_, rfl, r⟩
  | _, _, i + 1, d, .cons r t, h => by
    obtain ⟨v, h1, h2⟩ := Reps.get' (i := i) t (by simpa using h)
    exact ⟨v, by simpa using h1, h2⟩
theorem Reps.take {K : PySem.W.Frag} {H : Hp} : ∀ {vs : List V} {ds : List D} (n : Nat), Reps K H vs ds → Reps K H (vs.take n) (ds.take n)
  | _, _, 0, _ => .nil
  | _, _, _ + 1, .nil => .nil
  | _, _, n + 1, .cons r t => .cons r (Reps.take n t)
theorem Reps.drop {K : PySem.W.Frag} {H : Hp} : ∀ {vs : List V} {ds : List D} (n : Nat), Reps K H vs ds → Reps K H (vs.drop n) (ds.drop n)
  | _, _, 0, r => r
  | _, _, _ + 1, .nil => .nil
  | _, _, n + 1, .cons _ t => Reps.drop n t
theorem Reps.reverse {K : PySem.W.Frag} {H : Hp} : ∀ {vs : List V} {ds : List D}, Reps K H vs ds → Reps K H vs.reverse ds.reverse
  | _, _, .nil => .nil
  | _, _, .cons r t => by rw [List.reverse_cons, List.reverse_cons]; exact (Reps.reverse t).append (.cons r .nil)

/-! ### hidden addresses -/
open Classical in
noncomputable def hide (O : Addr → Prop) (H : Hp) : Hp := fun a => if O a then none else H a
theorem hide_of {O : Addr → Prop} {H : Hp} {a : Addr} (h : ¬ O a) : hide O H a = H a := by unfold hide; rw [if_neg h]
theorem hide_none {O : Addr → Prop} {H : Hp} {a : Addr} (h : O a) : hide O H a = none := by unfold hide; rw [if_pos h]
theorem hide_some {O : Addr → Prop} {H : Hp} {a : Addr} {o : HO} (h : hide O H a = some o) : ¬ O a ∧ H a = some o := by
  by_cases q : O a
  · rw [hide_none q] at h; cases h
  · rw [hide_of q] at h; exact ⟨q, h⟩
theorem hide_ext {O : Addr → Prop} {H : Hp} : Ext (hide O H) H := fun _ _ h => (hide_some h).2
theorem Ext.hide {O : Addr → Prop} {H H' : Hp} (h : Ext H H') : Ext (hide O H) (hide O H') := fun a o e => by
  obtain ⟨n, e⟩ := hide_some e
  rw [hide_of n]; exact h a o e
theorem hide_sub {O O' : Addr → Prop} {H : Hp} (h : ∀ a, O' a → O a) : Ext (hide O H) (hide O' H) := fun a o e => by
  obtain ⟨n, e⟩ := hide_some e
  rw [hide_of fun z => n (h a z)]; exact e
/-- a hidden thing is changed: nothing is seen of it -/
theorem hide_upd {O : Addr → Prop} {H : Hp} {a : Addr} {o : HO} (h : O a) : hide O (upd H a o) = hide O H := by
  funext b
  by_cases hb : O b
  · rw [hide_none hb, hide_none hb]
  · rw [hide_of hb, hide_of hb, upd_ne]
    rintro rfl; exact hb h
theorem hide_hide {O O' : Addr → Prop} {H : Hp} : hide O (hide O' H) = hide (fun a => O a ∨ O' a) H := by
  funext b
  by_cases hb : O b
  · rw [hide_none hb, hide_none (.inl hb)]
  · rw [hide_of hb]
    by_cases hc : O' b
    · rw [hide_none hc, hide_none (.inr hc)]
    · rw [hide_of hc, hide_of]
      rintro (z | z)
      · exact hb z
      · exact hc z
theorem hide_no {H : Hp} : hide (fun _ => False) H = H := by
  funext b; exact hide_of id

/-! ### how clean a value is: clean: nothing hidden within; top: itself perhaps, its parts not; leaky: perhaps what is the frame's own, not what is hidden from the frame -/
/-- b: hidden from the frame; o: hidden, the frame's own things too -/
structure Hid where
  b : Addr → Prop
  o : Addr → Prop
  le : ∀ a, b a → o a
/-- the heap in which the parts of a value stand -/
noncomputable def under (c : Cls) (O : Hid) (H : Hp) : Hp := match c with
  | .leaky => hide O.b H
  | _ => hide O.o H
def Top (K : PySem.W.Frag) (O : Hid) (H : Hp) (v : V) (d : D) : Prop := ∃ a, v = .ref a ∧ O.o a ∧ ¬ O.b a ∧
  ((∃ vs ds, d = .lst ds ∧ H a = some (.lst vs) ∧ Reps K (hide O.o H) vs ds) ∨ ∃ kvs ds, d = .dct ds ∧ Rd H a (.dK kvs) ∧ RepK K (hide O.o H) kvs ds)
def RepC (K : PySem.W.Frag) (c : Cls) (O : Hid) (H : Hp) (v : V) (d : D) : Prop := match c with
  | .clean => Rep K (hide O.o H) v d
  | .top => Rep K (hide O.o H) v d ∨ Top K O H v d
  | .leaky => Rep K (hide O.b H) v d
section
variable {K : PySem.W.Frag} {O : Hid} {H H' : Hp} {v : V} {d : D} {c c' : Cls}
theorem Hid.ext : Ext (hide O.o H) (hide O.b H) := hide_sub O.le
theorem Ext.under (c : Cls) (h : Ext H H') : Ext (under c O H) (under c O H') := by
  cases c <;> exact h.hide
theorem under_ext (c : Cls) : Ext (TQ.under c O H) H := by
  cases c <;> exact hide_ext
theorem under_hide (c : Cls) : Ext (hide O.o H) (TQ.under c O H) := by
  cases c
  · exact Ext.refl
  · exact Ext.refl
  · exact Hid.ext
theorem under_join (c c' : Cls) : Ext (TQ.under c O H) (TQ.under (c.join c') O H) := by
  cases c <;> cases c' <;> first | exact Ext.refl | exact Hid.ext
theorem under_join' (c c' : Cls) : Ext (TQ.under c' O H) (TQ.under (c.join c') O H) := by
  cases c <;> cases c' <;> first | exact Ext.refl | exact Hid.ext
theorem under_der (c : Cls) : TQ.under c.der O H = TQ.under c O H := by cases c <;> rfl
theorem under_new {c : Cls} {p : Addr} {o : HO} (hp : H p = none) (hO : ∀ a, O.o a → H a ≠ none) : TQ.under c O (upd H p o) p = some o := by
  have nO : ¬ O.o p := fun z => hO p z hp
  cases c
  · show hide O.o _ p = _; rw [hide_of nO, upd_same]
  · show hide O.o _ p = _; rw [hide_of nO, upd_same]
  · show hide O.b _ p = _; rw [hide_of fun z => nO (O.le p z), upd_same]
theorem RepC.mono (h : Ext H H') (r : RepC K c O H v d) : RepC K c O H' v d := by
  cases c with
  | clean => exact Rep.mono h.hide.le r
  | leaky => exact Rep.mono h.hide.le r
  | top =>
    rcases r with r | ⟨a, e, ha, hb, r⟩
    · exact .inl (Rep.mono h.hide.le r)
    · refine .inr ⟨a, e, ha, hb, ?_⟩
      rcases r with ⟨vs, ds, e1, e2, r⟩ | ⟨kvs, ds, e1, e2, r⟩
      · exact .inl ⟨vs, ds, e1, h _ _ e2, Reps.mono h.hide.le r⟩
      · exact .inr ⟨kvs, ds, e1, h.le.rd _ _ e2, RepK.mono h.hide.le r⟩
/-- of any class it is leaky -/
theorem RepC.leak (r : RepC K c O H v d) : Rep K (hide O.b H) v d := by
  cases c with
  | clean => exact Rep.mono Hid.ext.le r
  | leaky => exact r
  | top =>
    rcases r with r | ⟨a, rfl, ha, hb, r⟩
    · exact Rep.mono Hid.ext.le r
    · rcases r with ⟨vs, ds, rfl, e2, r⟩ | ⟨kvs, ds, rfl, e2, r⟩
      · exact .lst (by rw [hide_of hb]; exact e2) (Reps.mono Hid.ext.le r)
      · refine .dct ?_ (RepK.mono Hid.ext.le r)
        rcases e2 with e2 | ⟨o, e2⟩
        · exact .inl (by rw [hide_of hb]; exact e2)
        · exact .inr ⟨o, by rw [hide_of hb]; exact e2⟩
theorem RepC.full (r : RepC K c O H v d) : Rep K H v d := Rep.mono hide_ext.le r.leak
/-- of the parts' class -/
theorem RepC.of_under (r : Rep K (TQ.under c O H) v d) : RepC K c.der O H v d := by
  cases c
  · exact r
  · exact r
  · exact r
theorem RepC.of_clean (r : Rep K (hide O.o H) v d) : RepC K c O H v d := by
  cases c
  · exact r
  · exact .inl r
  · exact Rep.mono Hid.ext.le r
theorem RepC.max (r : RepC K c O H v d) : RepC K (c.max c') O H v d := by
  cases c <;> cases c' <;> first | exact r | exact .inl r | exact RepC.leak r
theorem RepC.max' (r : RepC K c O H v d) : RepC K (c'.max c) O H v d := by
  cases c <;> cases c' <;> first | exact r | exact .inl r | exact RepC.leak r
theorem Rep.u_lst {ds : List D} (h : Rep K (TQ.under c O H) v (.lst ds)) : ∃ a vs, v = .ref a ∧ H a = some (.lst vs) ∧ Reps K (TQ.under c O H) vs ds := by
  cases h with
  | lst h r => exact ⟨_, _, rfl, under_ext c _ _ h, r⟩
theorem Rep.u_tup {ds : List D} (h : Rep K (TQ.under c O H) v (.tup ds)) : ∃ a vs, v = .ref a ∧ SqT K H a vs ∧ Reps K (TQ.under c O H) vs ds := by
  cases h with
  | tup h r => exact ⟨_, _, rfl, (under_ext c).le.sqt h, r⟩
theorem Rep.u_dct {ds : List (D × D)} (h : Rep K (TQ.under c O H) v (.dct ds)) : ∃ a kvs, v = .ref a ∧ Rd H a (.dK kvs) ∧ RepK K (TQ.under c O H) kvs ds := by
  cases h with
  | dct h r => exact ⟨_, _, rfl, (under_ext c).le.rd _ _ h, r⟩
theorem RepC.lst {ds : List D} (r : RepC K c O H v (.lst ds)) : ∃ a vs, v = .ref a ∧ H a = some (.lst vs) ∧ Reps K (TQ.under c O H) vs ds := by
  cases c with
  | clean => exact Rep.u_lst (c := .clean) r
  | leaky => exact Rep.u_lst (c := .leaky) r
  | top =>
    rcases r with r | ⟨a, rfl, ha, hb, r⟩
    · exact Rep.u_lst (c := .top) r
    · rcases r with ⟨vs, ds, e, e2, r⟩ | ⟨kvs, ds, e, e2, r⟩
      · cases e; exact ⟨_, _, rfl, e2, r⟩
      · cases e
theorem RepC.tup_under {ds : List D} (r : RepC K c O H v (.tup ds)) : Rep K (TQ.under c O H) v (.tup ds) := by
  cases c with
  | clean => exact r
  | leaky => exact r
  | top =>
    rcases r with r | ⟨a, rfl, ha, hb, r⟩
    · exact r
    · rcases r with ⟨vs, ds, e, e2, r⟩ | ⟨kvs, ds, e, e2, r⟩ <;> cases e
theorem RepC.tup {ds : List D} (r : RepC K c O H v (.tup ds)) : ∃ a vs, v = .ref a ∧ SqT K H a vs ∧ Reps K (TQ.under c O H) vs ds := r.tup_under.u_tup
theorem RepC.dct {ds : List (D × D)} (r : RepC K c O H v (.dct ds)) : ∃ a kvs, v = .ref a ∧ Rd H a (.dK kvs) ∧ RepK K (TQ.under c O H) kvs ds := by
  cases c with
  | clean => exact Rep.u_dct (c := .clean) r
  | leaky => exact Rep.u_dct (c := .leaky) r
  | top =>
    rcases r with r | ⟨a, rfl, ha, hb, r⟩
    · exact Rep.u_dct (c := .top) r
    · rcases r with ⟨vs, ds, e, e2, r⟩ | ⟨kvs, ds, e, e2, r⟩
      · cases e
      · cases e; exact ⟨_, _, rfl, e2, r⟩
theorem RepC.scr {ns : List Int} (r : RepC K c O H v (.scr ns)) : ∃ a, v = .ref a ∧ SqL K H a (ns.map V.int) := by
  cases r.full with
  | scr h => exact ⟨_, rfl, h⟩
theorem RepC.int {i : Int} (r : RepC K c O H v (.int i)) : v = .int i := by
  cases r.full; rfl
theorem RepC.bl {i : Bool} (r : RepC K c O H v (.bl i)) : v = .bl i := by
  cases r.full; rfl
theorem RepC.non (r : RepC K c O H v .non) : v = .non := by
  cases r.full; rfl
theorem RepC.str {x : List Nat} (r : RepC K c O H v (.str x)) : v = .str (toS x) ∧ okS x := by
  cases r.full with
  | str h => exact ⟨rfl, h⟩
theorem RepC.mkI {i : Int} : RepC K c O H (.int i) (.int i) := .of_clean (.int i)
theorem RepC.mkB {b : Bool} : RepC K c O H (.bl b) (.bl b) := .of_clean (.bl b)
theorem RepC.mkN : RepC K c O H .non .non := .of_clean .non
theorem RepC.mkS {x : List Nat} (h : okS x) : RepC K c O H (.str (toS x)) (.str x) := .of_clean (.str h)
/-- a new tuple, list of such parts -/
theorem RepC.newT {p : Addr} {vs : List V} {ds : List D} (hp : H p = none) (hO : ∀ a, O.o a → H a ≠ none) (r : Reps K (TQ.under c O H) vs ds) : RepC K c.der O (upd H p (.tup vs)) (.ref p) (.tup ds) :=
  RepC.of_under (.tup (.inl (.inl (under_new hp hO))) (Reps.mono ((Ext.new hp).under c).le r))
theorem RepC.newL {p : Addr} {vs : List V} {ds : List D} (hp : H p = none) (hO : ∀ a, O.o a → H a ≠ none) (r : Reps K (TQ.under c O H) vs ds) : RepC K c.der O (upd H p (.lst vs)) (.ref p) (.lst ds) :=
  RepC.of_under (.lst (under_new hp hO) (Reps.mono ((Ext.new hp).under c).le r))
end

/-! ### the places of a frame -/
/-- hidden things stand -/
def OOk (O : Hid) (H : Hp) : Prop := ∀ a, O.o a → H a ≠ none
theorem OOk.ext {O : Hid} {H H' : Hp} (h : OOk O H) (e : Ext H H') : OOk O H' := fun a ha => by
  cases q : H a with
  | none => exact absurd q (h a ha)
  | some o => rw [e a o q]; simp
def SlotR (K : PySem.W.Frag) (O : Hid) (H : Hp) (v : Option (Option V)) : Slot → Prop
  | .no => True
  | .val d => ∃ u, v = some (some u) ∧ Rep K (hide O.o H) u d
  | .ml ds => ∃ a vs, v = some (some (.ref a)) ∧ O.o a ∧ ¬ O.b a ∧ H a = some (.lst vs) ∧ Reps K (hide O.o H) vs ds
  | .md ds => ∃ a kvs, v = some (some (.ref a)) ∧ O.o a ∧ ¬ O.b a ∧ Rd H a (.dK kvs) ∧ RepK K (hide O.o H) kvs ds
structure EnvR (K : PySem.W.Frag) (O : Hid) (H : Hp) (σ : L2.St) (env : Env) : Prop where
  ok : OOk O H
  at_ : ∀ i, SlotR K O H σ[i]? (getS env i)
theorem SlotR.mono {K : PySem.W.Frag} {O : Hid} {H H' : Hp} {v : Option (Option V)} {s : Slot} (h : Ext H H') (r : SlotR K O H v s) : SlotR K O H' v s := by
  cases s with
  | no => trivial
  | val d => obtain ⟨u, e, r⟩ := r; exact ⟨u, e, Rep.mono h.hide.le r⟩
  | ml ds => obtain ⟨a, vs, e, o, nb, e2, r⟩ := r; exact ⟨a, vs, e, o, nb, h _ _ e2, Reps.mono h.hide.le r⟩
  | md ds => obtain ⟨a, kvs, e, o, nb, e2, r⟩ := r; exact ⟨a, kvs, e, o, nb, h.le.rd _ _ e2, RepK.mono h.hide.le r⟩
theorem EnvR.mono {K : PySem.W.Frag} {O : Hid} {H H' : Hp} {σ : L2.St} {env : Env} (h : Ext H H') (r : EnvR K O H σ env) : EnvR K O H' σ env := ⟨r.ok.ext h, fun i => (r.at_ i).mono h⟩

theorem getS_set_same {x : Slot} : ∀ {env : Env} {i : Nat}, i < env.length → getS (setS env i x) i = x
  | [], _, h => by simp at h
  | _ :: _, 0, _ => rfl
  | _ :: r, i + 1, h => getS_set_same (env := r) (i := i) (by simpa using h)
theorem getS_set_other {x : Slot} : ∀ {env : Env} {i j : Nat}, j ≠ i → getS (setS env i x) j = getS env j
  | [], _, _, _ => rfl
  | _ :: _, 0, 0, h => absurd rfl h
  | _ :: _, 0, _ + 1, _ => rfl
  | _ :: _, _ + 1, 0, _ => rfl
  | _ :: r, i + 1, j + 1, h => getS_set_other (env := r) (i := i) (j := j) (by omega)
theorem getS_out : ∀ {env : Env} {i : Nat}, env.length ≤ i → getS env i = .no
  | [], _, _ => rfl
  | _ :: _, 0, h => by simp at h
  | _ :: r, i + 1, h => getS_out (env := r) (i := i) (by simpa using h)
theorem setS_length {x : Slot} : ∀ {env : Env} {i : Nat}, (setS env i x).length = env.length
  | [], _ => rfl
  | _ :: _, 0 => rfl
  | _ :: r, i + 1 => by show (setS r i x).length + 1 = r.length + 1; rw [setS_length]
/-- a place is stored -/
theorem EnvR.set {K : PySem.W.Frag} {O : Hid} {H : Hp} {σ : L2.St} {env : Env} {i : Nat} {v : V} {s : Slot} (r : EnvR K O H σ env) (hi : i < σ.length) (h : SlotR K O H (some (some v)) s) : EnvR K O H (σ.set i (some v)) (setS env i s) := by
  refine ⟨r.ok, fun j => ?_⟩
  by_cases e : j = i
  · subst e
    rw [List.getElem?_set_self hi]
    by_cases hl : j < env.length
    · rw [getS_set_same hl]; exact h
    · rw [getS_out (by rw [setS_length]; omega)]; trivial
  · rw [List.getElem?_set_ne (Ne.symm e), getS_set_other e]
    exact r.at_ j
end TQ

/-! DS2: what a plain expression tells, as a reading of the hand layer's judgements; its composition. -/
namespace TQ
open PySem PySem.Spec PyProof.Rows L2

/-- what is wanted where an exception flies -/
abbrev Zt := L2.St → Hp → List Nat → List D → Prop
def Post {α : Type} (r : R α) (P : α → Prop) (Z : List Nat → List D → Prop) : Prop := match r with
  | .ok a => P a
  | .exc c as => Z c as
  | .bad => False
theorem Post.bind {α β : Type} {r : R α} {f : α → R β} {P : β → Prop} {Z : List Nat → List D → Prop} (h : Post (r.bind f) P Z) : Post r (fun a => Post (f a) P Z) Z := by
  cases r <;> exact h
theorem Post.imp {α : Type} {r : R α} {P P' : α → Prop} {Z Z' : List Nat → List D → Prop} (h : Post r P Z) (hp : ∀ a, r = .ok a → P a → P' a) (hz : ∀ c as, Z c as → Z' c as) : Post r P' Z' := by
  cases r with
  | ok a => exact hp a rfl h
  | exc c as => exact hz c as h
  | bad => exact h
def ZMono (Z : Zt) : Prop := ∀ σ H H' c as, Ext H H' → Z σ H c as → Z σ H' c as
/-- no exception comes of it -/
def NoX {α : Type} (r : R α) : Prop := ∀ c as, r ≠ .exc c as
theorem NoX.ok {α : Type} {a : α} : NoX (R.ok a) := fun _ _ h => nomatch h
theorem NoX.bad {α : Type} : NoX (R.bad : R α) := fun _ _ h => nomatch h
theorem NoX.bind {α β : Type} {r : R α} {f : α → R β} (h : NoX r) (h' : ∀ a, NoX (f a)) : NoX (r.bind f) := by
  cases r with
  | ok a => exact h' a
  | exc c as => exact absurd rfl (h c as)
  | bad => exact .bad
theorem NoX.ofO {α β : Type} {o : Option α} {f : α → R β} (h' : ∀ a, NoX (f a)) : NoX (TQ.ofO o f) := by
  cases o with
  | none => exact .bad
  | some a => exact h' a
theorem NoX.ite {α : Type} {c : Prop} [Decidable c] {a b : R α} (ha : NoX a) (hb : NoX b) : NoX (if c then a else b) := by
  split
  · exact ha
  · exact hb

section
variable {X : Cx}
theorem pe_mono {e : Expr} {t t' : TE} (h : PE X e t) (hm : ∀ σ H Q, t' σ H Q → t σ H Q) : PE X e t' := ⟨fun pins s σ H Q I q => h.run pins s σ H Q I (hm _ _ _ q)⟩
theorem pt_mono {e : Expr} {t t' : TT} (h : PT X e t) (hm : ∀ σ H Q, t' σ H Q → t σ H Q) : PT X e t' := ⟨fun pins s σ H Q I q => h.run pins s σ H Q I (hm _ _ _ q)⟩
theorem pw_mono {e : Expr} {t t' : TT} (h : PW X e t) (hm : ∀ σ H Q, t' σ H Q → t σ H Q) : PW X e t' := ⟨fun wh pins s σ H Q I q => h.run wh pins s σ H Q I (hm _ _ _ q)⟩
theorem pa_mono {e : List Expr} {t t' : TA} (h : PA X e t) (hm : ∀ σ H Q, t' σ H Q → t σ H Q) : PA X e t' := ⟨fun pos pins s σ H Q I q => h.run pos pins s σ H Q I (hm _ _ _ q)⟩
theorem ps_mono {e : Stmt} {t t' : TS} (h : PS X e t) (hm : ∀ D σ H, t' D σ H → t D σ H) : PS X e t' := ⟨fun pins s σ H D I q => h.run pins s σ H D I (hm _ _ _ q)⟩
theorem pss_mono {e : List Stmt} {t t' : TS} (h : PSs X e t) (hm : ∀ D σ H, t' D σ H → t D σ H) : PSs X e t' := ⟨fun pins s σ H D I q => h.run pins s σ H D I (hm _ _ _ q)⟩
end

/-- what an expression tells: r its evaluation, c how clean it is -/
def tE (K : PySem.W.Frag) (Z : Zt) (c : Cls) (r : Env → R D) : TE := fun σ H Q => ∃ O env, EnvR K O H σ env ∧ Post (r env) (fun d => ∀ v H', Ext H H' → RepC K c O H' v d → Q v H') (Z σ H)
/-- a test -/
def tB' (K : PySem.W.Frag) (Z : Zt) (r : Env → R Bool) : TT := fun σ H Q => ∃ O env, EnvR K O H σ env ∧ Post (r env) (fun b => ∀ H', Ext H H' → Q b H') (Z σ H)
/-- arguments -/
def tAs (K : PySem.W.Frag) (Z : Zt) (c : Cls) (r : Env → R (List D)) : TA := fun σ H Q => ∃ O env, EnvR K O H σ env ∧ Post (r env) (fun ds => ∀ vs H', Ext H H' → Reps K (under c O H') vs ds → Q vs H') (Z σ H)

section
variable {K : PySem.W.Frag} {Z : Zt} {c ca cb cc : Cls} {ra rb rc : Env → R D} {σ : L2.St} {H : Hp} {Q : VK}

/-- first a, then what stands behind it -/
theorem tE_then {α : Type} {f : Env → D → R α} {P : α → Prop} {O : Hid} {env : Env} {Q' : V → Hp → Prop} (hz : ZMono Z) (e : EnvR K O H σ env)
    (h : Post ((ra env).bind fun x => f env x) P (Z σ H))
    (hq : ∀ d v H', ra env = .ok d → Ext H H' → EnvR K O H' σ env → RepC K ca O H' v d → Post (f env d) P (Z σ H') → Q' v H') : tE K Z ca ra σ H Q' := by
  refine ⟨O, env, e, ?_⟩
  refine (Post.bind h).imp (fun d ed hd v H' x r => hq d v H' ed x (e.mono x) r (hd.imp (fun _ _ h => h) fun c as z => hz _ _ _ _ _ x z)) fun _ _ z => z

/-- a two-place operation by values: its part of the hand layer tells f -/
def Op2Ok (K : PySem.W.Frag) (ca cb c : Cls) (f : D → D → R D) (r2 : R2) : Prop := ∀ (O : Hid) (H : Hp) (x y : V) (d e d' : D) (Q : VK),
  OOk O H → RepC K ca O H x d → RepC K cb O H y e → f d e = .ok d' → (∀ v H', Ext H H' → RepC K c O H' v d' → Q v H') → r2 x y H Q
def Op1Ok (K : PySem.W.Frag) (ca c : Cls) (f : D → R D) (r1 : V → Hp → VK → Prop) : Prop := ∀ (O : Hid) (H : Hp) (x : V) (d d' : D) (Q : VK),
  OOk O H → RepC K ca O H x d → f d = .ok d' → (∀ v H', Ext H H' → RepC K c O H' v d' → Q v H') → r1 x H Q
def Op3Ok (K : PySem.W.Frag) (ca cb cc c : Cls) (f : D → D → D → R D) (r3 : V → V → V → Hp → VK → Prop) : Prop := ∀ (O : Hid) (H : Hp) (x y z : V) (d e g d' : D) (Q : VK),
  OOk O H → RepC K ca O H x d → RepC K cb O H y e → RepC K cc O H z g → f d e g = .ok d' → (∀ v H', Ext H H' → RepC K c O H' v d' → Q v H') → r3 x y z H Q

theorem Post.of_noX {r : R D} {P : D → Prop} {Z : List Nat → List D → Prop} (n : NoX r) (h : Post r P Z) : ∃ d, r = .ok d ∧ P d := by
  cases r with
  | ok d => exact ⟨d, rfl, h⟩
  | exc c as => exact absurd rfl (n c as)
  | bad => exact h.elim

theorem tE_op1 {f : D → R D} {r1 : V → Hp → VK → Prop} (hz : ZMono Z) (n : ∀ d, NoX (f d)) (op : Op1Ok K ca c f r1)
    (h : tE K Z c (fun env => (ra env).bind f) σ H Q) : tE K Z ca ra σ H fun x H1 => r1 x H1 Q := by
  obtain ⟨O, env, e, h⟩ := h
  refine tE_then (f := fun _ x => f x) hz e h fun d v H1 ed x1 e1 r1 h1 => ?_
  obtain ⟨d', ed', q⟩ := h1.of_noX (n d)
  exact op O H1 v d d' Q e1.ok r1 ed' fun u H2 x2 r2 => q u H2 (x1.trans x2) r2
theorem tE_op2 {f : D → D → R D} {r2 : R2} (hz : ZMono Z) (n : ∀ d e, NoX (f d e)) (op : Op2Ok K ca cb c f r2)
    (h : tE K Z c (fun env => (ra env).bind fun x => (rb env).bind fun y => f x y) σ H Q) : tE K Z ca ra σ H fun x H1 => tE K Z cb rb σ H1 fun y H2 => r2 x y H2 Q := by
  obtain ⟨O, env, e, h⟩ := h
  refine tE_then (f := fun env x => (rb env).bind fun y => f x y) hz e h fun d v H1 ed x1 e1 r1 h1 => ?_
  refine tE_then (f := fun _ y => f d y) hz e1 h1 fun d2 v2 H2 ed2 x2 e2 r2 h2 => ?_
  obtain ⟨d', ed', q⟩ := h2.of_noX (n d d2)
  exact op O H2 v v2 d d2 d' Q e2.ok (r1.mono x2) r2 ed' fun u H3 x3 r3 => q u H3 ((x1.trans x2).trans x3) r3
theorem tE_op3 {f : D → D → D → R D} {r3 : V → V → V → Hp → VK → Prop} (hz : ZMono Z) (n : ∀ d e g, NoX (f d e g)) (op : Op3Ok K ca cb cc c f r3)
    (h : tE K Z c (fun env => (ra env).bind fun x => (rb env).bind fun y => (rc env).bind fun z => f x y z) σ H Q) :
    tE K Z ca ra σ H fun x H1 => tE K Z cb rb σ H1 fun y H2 => tE K Z cc rc σ H2 fun z H3 => r3 x y z H3 Q := by
  obtain ⟨O, env, e, h⟩ := h
  refine tE_then (f := fun env x => (rb env).bind fun y => (rc env).bind fun z => f x y z) hz e h fun d v H1 ed x1 e1 r1 h1 => ?_
  refine tE_then (f := fun env y => (rc env).bind fun z => f d y z) hz e1 h1 fun d2 v2 H2 ed2 x2 e2 r2 h2 => ?_
  refine tE_then (f := fun _ z => f d d2 z) hz e2 h2 fun d3 v3 H3 ed3 x3 e3 r3 h3 => ?_
  obtain ⟨d', ed', q⟩ := h3.of_noX (n d d2 d3)
  exact op O H3 v v2 v3 d d2 d3 d' Q e3.ok ((r1.mono x2).mono x3) (r2.mono x3) r3 ed' fun u H4 x4 r4 => q u H4 (((x1.trans x2).trans x3).trans x4) r4

/-! ### names and constants -/
/-- a place that is read -/
theorem tE_var {i : Nat} (h : tE K Z .clean (fun env => varD (getS env i)) σ H Q) : tVar i σ H Q := by
  obtain ⟨O, env, e, h⟩ := h
  have h : Post (varD (getS env i)) (fun d => ∀ v H', Ext H H' → RepC K .clean O H' v d → Q v H') (Z σ H) := h
  have s := e.at_ i
  cases q : getS env i with
  | val d =>
    rw [q] at s h
    obtain ⟨u, e1, r⟩ := s
    exact ⟨u, e1, h u H Ext.refl r⟩
  | no => rw [q] at h; exact h.elim
  | ml ds => rw [q] at h; exact h.elim
  | md ds => rw [q] at h; exact h.elim
theorem tE_mvar {i : Nat} (h : tE K Z .top (fun env => mvarD (getS env i)) σ H Q) : tVar i σ H Q := by
  obtain ⟨O, env, e, h⟩ := h
  have h : Post (mvarD (getS env i)) (fun d => ∀ v H', Ext H H' → RepC K .top O H' v d → Q v H') (Z σ H) := h
  have s := e.at_ i
  cases q : getS env i with
  | val d =>
    rw [q] at s h
    obtain ⟨u, e1, r⟩ := s
    exact ⟨u, e1, h u H Ext.refl (.inl r)⟩
  | no => rw [q] at h; exact h.elim
  | ml ds =>
    rw [q] at s h
    obtain ⟨a, vs, e1, o, nb, e2, r⟩ := s
    exact ⟨_, e1, h _ H Ext.refl (.inr ⟨a, rfl, o, nb, .inl ⟨vs, ds, rfl, e2, r⟩⟩)⟩
  | md ds =>
    rw [q] at s h
    obtain ⟨a, vs, e1, o, nb, e2, r⟩ := s
    exact ⟨_, e1, h _ H Ext.refl (.inr ⟨a, rfl, o, nb, .inr ⟨vs, ds, rfl, e2, r⟩⟩)⟩
/-- a value that stands always -/
theorem tE_const {d : D} {v : V} (r : ∀ H, Rep K H v d) (h : tE K Z .clean (fun _ => .ok d) σ H Q) : tC v σ H Q := by
  obtain ⟨O, env, e, h⟩ := h
  exact h v H Ext.refl (r _)

/-! ### arguments -/
theorem RepC.arg {O : Hid} {H : Hp} {v : V} {d : D} {c cs : Cls} (r : RepC K c O H v d) : Rep K (under (c.arg cs) O H) v d := by
  cases c <;> cases cs <;> first | exact r | exact RepC.leak r | exact Rep.mono Hid.ext.le r
theorem under_arg {O : Hid} {H : Hp} {c cs : Cls} (hc : cs ≠ .top) : Ext (under cs O H) (under (c.arg cs) O H) := by
  cases c <;> cases cs <;> first | exact Ext.refl | exact Hid.ext | exact absurd rfl hc
theorem tAs_nil (hq : True) {Q : List V → Hp → Prop} (h : tAs K Z c (fun _ => .ok []) σ H Q) : tNil σ H Q := by
  obtain ⟨O, env, e, h⟩ := h
  exact h [] H Ext.refl .nil
theorem tAs_cons {rs : Env → R (List D)} {cs : Cls} {Q : List V → Hp → Prop} (hz : ZMono Z) (hc : cs ≠ .top)
    (h : tAs K Z (ca.arg cs) (fun env => (ra env).bind fun d => (rs env).bind fun ds => .ok (d :: ds)) σ H Q) : tCons (tE K Z ca ra) (tAs K Z cs rs) σ H Q := by
  obtain ⟨O, env, e, h⟩ := h
  refine tE_then (f := fun env d => (rs env).bind fun ds => .ok (d :: ds)) hz e h fun d v H1 ed x1 e1 r1 h1 => ?_
  refine ⟨O, env, e1, (Post.bind h1).imp (fun ds eds h2 vs H2 x2 r2 => ?_) fun _ _ z => z⟩
  exact h2 (v :: vs) H2 (x1.trans x2) (.cons (RepC.arg (r1.mono x2)) (Reps.mono (under_arg hc).le r2))
end
end TQ

/-! DS3: the operations by values: equality, in, operators, builtins, subscripts. -/
namespace TQ
open PySem PySem.Spec PyProof.Rows L2

/-! ### equality -/
mutual
def toPy : D → PyData
  | .non => .none
  | .bl b => .bool b
  | .int i => .int i
  | .str x => .str (toS x)
  | .tup xs => .tuple (toPys xs)
  | .lst xs => .list (toPys xs)
  | .scr _ => .none
  | .dct _ => .none
def toPys : List D → List PyData
  | [] => []
  | x :: xs => toPy x :: toPys xs
end
theorem toS_beq (x y : List Nat) : (toS x == toS y) = (x == y) := by
  by_cases h : x = y
  · subst h; simp
  · have : toS x ≠ toS y := fun e => h (by
      have := congrArg (fun s : Str => s.cps.toList) e
      simpa using this)
    rw [beq_eq_false_iff_ne.mpr this, beq_eq_false_iff_ne.mpr h]
mutual
theorem eqv_py : ∀ a b : D, plain a = true → plain b = true → PyData.eqv (toPy a) (toPy b) = eqv a b
  | .non, b, _, hb => by cases b <;> first | rfl | (cases hb)
  | .bl x, b, _, hb => by cases b <;> first | rfl | (cases hb)
  | .int x, b, _, hb => by cases b <;> first | rfl | (cases hb)
  | .str x, b, _, hb => by
    cases b with
    | str y => exact toS_beq x y
    | _ => first | rfl | (cases hb)
  | .tup xs, b, ha, hb => by
    cases b with
    | tup ys => exact eqvs_py xs ys ha hb
    | _ => first | rfl | (cases hb)
  | .lst xs, b, ha, hb => by
    cases b with
    | lst ys => exact eqvs_py xs ys ha hb
    | _ => first | rfl | (cases hb)
  | .scr _, _, ha, _ => by cases ha
  | .dct _, _, ha, _ => by cases ha
theorem eqvs_py : ∀ a b : List D, plains a = true → plains b = true → PyData.eqvAll (toPys a) (toPys b) = eqvs a b
  | [], [], _, _ => rfl
  | [], _ :: _, _, _ => rfl
  | _ :: _, [], _, _ => rfl
  | x :: xs, y :: ys, ha, hb => by
    have ha : (plain x && plains xs) = true := ha
    have hb : (plain y && plains ys) = true := hb
    rw [Bool.and_eq_true] at ha hb
    show (PyData.eqv (toPy x) (toPy y) && PyData.eqvAll (toPys xs) (toPys ys)) = (eqv x y && eqvs xs ys)
    rw [eqv_py x y ha.1 hb.1, eqvs_py xs ys ha.2 hb.2]
end
mutual
theorem shal_depth : ∀ (k : Nat) (d : D), shal k d = true → (toPy d).depth ≤ k
  | _, .non, _ => Nat.zero_le _
  | _, .bl _, _ => Nat.zero_le _
  | _, .int _, _ => Nat.zero_le _
  | _, .str _, _ => Nat.zero_le _
  | _, .scr _, _ => Nat.zero_le _
  | _, .dct _, _ => Nat.zero_le _
  | 0, .tup xs, h => by cases h
  | 0, .lst xs, h => by cases h
  | k + 1, .tup xs, h => Nat.succ_le_succ (shals_depth k xs h)
  | k + 1, .lst xs, h => Nat.succ_le_succ (shals_depth k xs h)
theorem shals_depth : ∀ (k : Nat) (ds : List D), shals k ds = true → PyData.depthAll (toPys ds) ≤ k
  | _, [], _ => Nat.zero_le _
  | k, x :: xs, h => by
    have h : (shal k x && shals k xs) = true := h
    rw [Bool.and_eq_true] at h
    exact Nat.max_le.mpr ⟨shal_depth k x h.1, shals_depth k xs h.2⟩
end
theorem strOk_of {x : List Nat} (h : okS x) : PyData.strOk (toS x) = true := by
  unfold PyData.strOk
  rw [Array.all_eq_true]
  intro i hi
  exact decide_eq_true (h.2 _ (by simp))
mutual
theorem Rep.dp {K : PySem.W.Frag} {H : Hp} : ∀ {v : V} {d : D}, Rep K H v d → plain d = true → Dp K H v (toPy d) ∧ (toPy d).canLay0 = true
  | _, _, .non, _ => ⟨.non, rfl⟩
  | _, _, .bl b, _ => ⟨.bl b, rfl⟩
  | _, _, .int i, _ => ⟨.int i, rfl⟩
  | _, _, .str h, _ => ⟨.str _, by simpa only [toPy, PyData.canLay0] using strOk_of h⟩
  | _, _, .tup h r, p => ⟨.tup h (Reps.dp r p).1, by simpa only [toPy, PyData.canLay0] using (Reps.dp r p).2⟩
  | _, _, .lst h r, p => ⟨.lst (.inl (.inl h)) (Reps.dp r p).1, by simpa only [toPy, PyData.canLay0] using (Reps.dp r p).2⟩
  | _, _, .scr _, p => by cases p
  | _, _, .dct _ _, p => by cases p
theorem Reps.dp {K : PySem.W.Frag} {H : Hp} : ∀ {v : List V} {d : List D}, Reps K H v d → plains d = true → DpAll K H v (toPys d) ∧ PyData.canLayAll0 (toPys d) = true
  | _, _, .nil, _ => ⟨.nil, rfl⟩
  | _, _, .cons (d := d) (ds := ds) r t, p => by
    have p : (plain d && plains ds) = true := p
    rw [Bool.and_eq_true] at p
    have h1 := Rep.dp r p.1
    have h2 := Reps.dp t p.2
    refine ⟨.cons h1.1 h2.1, ?_⟩
    simp only [toPys, PyData.canLayAll0, h1.2, h2.2, Bool.and_self]
end
theorem eqOk_parts {a b : D} (h : eqOk a b = true) : plain a = true ∧ plain b = true ∧ (shal 60 a = true ∨ shal 60 b = true) := by
  unfold eqOk at h
  simp only [Bool.and_eq_true, Bool.or_eq_true] at h
  exact ⟨h.1.1, h.1.2, h.2⟩
theorem eqOk_depth {a b : D} (h : eqOk a b = true) : min (toPy a).depth (toPy b).depth ≤ 60 := by
  rcases (eqOk_parts h).2.2 with q | q
  · exact Nat.le_trans (Nat.min_le_left _ _) (shal_depth 60 a q)
  · exact Nat.le_trans (Nat.min_le_right _ _) (shal_depth 60 b q)

section
variable {X : Cx}
theorem eqAt_D {pins : List (Addr × Obj)} {σ : L2.St} {H : Hp} {s : Shared} {x y : V} {d e : D} {v u : Value} {A : Around} (I : Inv X pins σ H s) (hu : A.units + 61 ≤ cLine) (rx : Rep X.K H x d) (ry : Rep X.K H y e) (hx : RelV x v) (hy : RelV y u) (ok : eqOk d e = true) :
    SeqAt.EqAt A s v u (eqv d e) := by
  have p := eqOk_parts ok
  have h1 := rx.dp p.1
  have h2 := ry.dp p.2.1
  obtain ⟨as, r1⟩ := Dp.reads I _ x v h1.1 hx
  obtain ⟨bs, r2⟩ := Dp.reads I _ y u h2.1 hy
  rw [← eqv_py d e p.1 p.2.1]
  exact SeqAt.eqAt_reads _ _ A s v u as bs r1 r2 h1.2 h2.2 (by have := eqOk_depth ok; omega)
def rEqR (K : PySem.W.Frag) (neg : Bool) : R2 := fun x y H Q => ∃ d e, Rep K H x d ∧ Rep K H y e ∧ eqOk d e = true ∧ Q (.bl (if neg then !eqv d e else eqv d e)) H
theorem op_eqR (hu : X.A.units + 64 < cLine) : OpR X (compareOp .Eq) (rEqR X.K false) := by
  intro pins s σ H x y v u Q I rx ry h
  obtain ⟨d, e, hd, he, ok, q⟩ := h
  have p := eqOk_parts ok
  have h1 := hd.dp p.1
  have h2 := he.dp p.2.1
  obtain ⟨as, r1⟩ := Dp.reads I _ x v h1.1 rx
  obtain ⟨bs, r2⟩ := Dp.reads I _ y u h2.1 ry
  refine SeqAt.compareEq_reads r1 r2 h1.2 h2.2 (by have := eqOk_depth ok; omega) ⟨.bl _, H, I, ?_, q⟩
  rw [eqv_py d e p.1 p.2.1]; rfl
theorem op_neR (hu : X.A.units + 64 < cLine) : OpR X (compareOp .NotEq) (rEqR X.K true) := by
  intro pins s σ H x y v u Q I rx ry h
  obtain ⟨d, e, hd, he, ok, q⟩ := h
  have p := eqOk_parts ok
  have h1 := hd.dp p.1
  have h2 := he.dp p.2.1
  obtain ⟨as, r1⟩ := Dp.reads I _ x v h1.1 rx
  obtain ⟨bs, r2⟩ := Dp.reads I _ y u h2.1 ry
  refine SeqAt.compareNe_reads r1 r2 h1.2 h2.2 (by have := eqOk_depth ok; omega) ⟨.bl _, H, I, ?_, q⟩
  rw [eqv_py d e p.1 p.2.1]; rfl

/-! ### in a list, a tuple -/
theorem vals_reps_any {K : PySem.W.Frag} {H : Hp} {f : D → Bool} {e : Value → Bool} : ∀ {vs : List V} {ds : List D} {us : List Value}, Reps K H vs ds → Vals vs us →
    (∀ (i : Nat) d u, ds[i]? = some d → us[i]? = some u → f d = true → e u = true) → (∀ u ∈ us, e u = true → ∃ d ∈ ds, f d = true) → us.any e = ds.any f := by
  intro vs ds us r rv h1 h2
  rw [Bool.eq_iff_iff, List.any_eq_true, List.any_eq_true]
  constructor
  · rintro ⟨u, hu, eu⟩; exact h2 u hu eu
  · rintro ⟨d, hd, fd⟩
    obtain ⟨i, hi, e1⟩ := List.getElem_of_mem hd
    have hi' : i < us.length := by rw [← rv.length, r.length]; exact hi
    exact ⟨us[i], List.getElem_mem hi', h1 i d us[i] (by rw [List.getElem?_eq_getElem hi, e1]) (List.getElem?_eq_getElem hi') fd⟩
def rInR (K : PySem.W.Frag) (neg : Bool) : R2 := fun x y H Q => ∃ p vs d ds, y = .ref p ∧ (SqL K H p vs ∨ SqT K H p vs) ∧ Rep K H x d ∧ Reps K H vs ds ∧ (ds.all fun z => eqOk z d) = true ∧
  Q (.bl (if neg then !(ds.any fun z => eqv z d) else ds.any fun z => eqv z d)) H
open Classical in
theorem in_items {pins : List (Addr × Obj)} {σ : L2.St} {H : Hp} {s : Shared} {x : V} {d : D} {v : Value} {vs : List V} {ds : List D} {us : List Value} {A : Around} (I : Inv X pins σ H s) (hu : A.units + 61 ≤ cLine) (rx : Rep X.K H x d) (hx : RelV x v)
    (r : Reps X.K H vs ds) (rv : Vals vs us) (ok : (ds.all fun z => eqOk z d) = true) : ∃ e : Value → Bool, (∀ y ∈ us, SeqAt.EqAt A s y v (e y)) ∧ us.any e = ds.any fun z => eqv z d := by
  have key : ∀ (i : Nat) z u, ds[i]? = some z → us[i]? = some u → SeqAt.EqAt A s u v (eqv z d) := fun i z u hz hu' => by
    obtain ⟨y, hy, ry⟩ := r.get hz
    obtain ⟨u', hu2, ru⟩ := rv.get hy
    rw [hu'] at hu2; cases hu2
    exact eqAt_D I hu ry rx ru hx (List.all_eq_true.mp ok z (List.mem_of_getElem? hz))
  refine ⟨fun u => decide (∃ (i : Nat) (z : D), ds[i]? = some z ∧ us[i]? = some u ∧ eqv z d = true), fun y hy => ?_, vals_reps_any r rv (fun i z u h1 h2 h3 => decide_eq_true ⟨i, z, h1, h2, h3⟩) fun u hu' h => ?_⟩
  · by_cases q : ∃ (i : Nat) (z : D), ds[i]? = some z ∧ us[i]? = some y ∧ eqv z d = true
    · obtain ⟨i, z, h1, h2, h3⟩ := id q
      show SeqAt.EqAt A s y v (decide _)
      rw [decide_eq_true q, ← h3]; exact key i z y h1 h2
    · show SeqAt.EqAt A s y v (decide _)
      rw [decide_eq_false q]
      obtain ⟨i, hi, e1⟩ := List.getElem_of_mem hy
      have hi' : i < ds.length := by rw [← r.length, rv.length]; exact hi
      have h2 : us[i]? = some y := by rw [List.getElem?_eq_getElem hi, e1]
      have h1 : ds[i]? = some ds[i] := List.getElem?_eq_getElem hi'
      have h3 : eqv ds[i] d = false := by
        cases h : eqv ds[i] d with
        | false => rfl
        | true => exact absurd ⟨i, _, h1, h2, h⟩ q
      rw [← h3]; exact key i _ y h1 h2
  · obtain ⟨i, z, h1, h2, h3⟩ := of_decide_eq_true h
    exact ⟨z, List.mem_of_getElem? h1, h3⟩
theorem op_inR (hu : X.A.units + 64 < cLine) : OpR X (compareOp .In) (rInR X.K false) := by
  intro pins s σ H x y v u Q I rx ry h
  obtain ⟨p, vs, d, ds, rfl, hq, hd, hs, ok, q⟩ := h
  cases ry
  have hu' : X.A.in1.units + 61 ≤ cLine := by show X.A.units + 1 + 61 ≤ _; omega
  rcases hq with hq | hq
  · obtain ⟨its, r, pl, hz⟩ := I.list hq
    obtain ⟨e, he, ha⟩ := in_items I hu' hd rx hs r ok
    refine SeqAt.in_listAt e pl.isList (fun w hw => he w (by simpa using hw)) ⟨.bl _, H, I, rfl, ?_⟩
    rw [show its.toArray.any e = its.any e by simp, ha]
    exact q
  · obtain ⟨its, r, pl, hz⟩ := I.tuple hq
    obtain ⟨e, he, ha⟩ := in_items I hu' hd rx hs r ok
    refine SeqAt.in_tupleAt e pl (fun w hw => he w (by simpa using hw)) ⟨.bl _, H, I, rfl, ?_⟩
    rw [show its.toArray.any e = its.any e by simp, ha]
    exact q
theorem op_notInR (hu : X.A.units + 64 < cLine) : OpR X (compareOp .NotIn) (rInR X.K true) := by
  intro pins s σ H x y v u Q I rx ry h
  obtain ⟨p, vs, d, ds, rfl, hq, hd, hs, ok, q⟩ := h
  cases ry
  have hu' : X.A.in1.units + 61 ≤ cLine := by show X.A.units + 1 + 61 ≤ _; omega
  rcases hq with hq | hq
  · obtain ⟨its, r, pl, hz⟩ := I.list hq
    obtain ⟨e, he, ha⟩ := in_items I hu' hd rx hs r ok
    refine SeqAt.notIn_listAt e pl.isList (fun w hw => he w (by simpa using hw)) ⟨.bl _, H, I, rfl, ?_⟩
    rw [show its.toArray.any e = its.any e by simp, ha]
    exact q
  · obtain ⟨its, r, pl, hz⟩ := I.tuple hq
    obtain ⟨e, he, ha⟩ := in_items I hu' hd rx hs r ok
    refine SeqAt.notIn_tupleAt e pl (fun w hw => he w (by simpa using hw)) ⟨.bl _, H, I, rfl, ?_⟩
    rw [show its.toArray.any e = its.any e by simp, ha]
    exact q
end
end TQ

/-! DS4: operators, comparisons, subscripts, builtins: each tells what the evaluator's function tells. -/
namespace TQ
open PySem PySem.Spec PyProof.Rows L2

theorem toS_append (x y : List Nat) : toS x ++ toS y = toS (x ++ y) := by
  show Str.append _ _ = _
  unfold Str.append toS
  simp
theorem toS_length (x : List Nat) : (toS x).length = x.length := by simp [Str.length]
theorem toS_list (x : List Nat) : (toS x).cps.toList = x := rfl
theorem Cls.join_ne (c c' : Cls) : c.join c' ≠ .top := by cases c <;> cases c' <;> (intro h; cases h)
theorem Cls.der_of {c : Cls} (h : c ≠ .top) : c.der = c := by cases c <;> first | rfl | exact absurd rfl h
section
variable {K : PySem.W.Frag} {O : Hid} {H H' : Hp} {v : V} {d : D} {c c' : Cls}
theorem RepC.of_u (hc : c ≠ .top) (r : Rep K (under c O H) v d) : RepC K c O H v d := by
  have := RepC.of_under r
  rwa [Cls.der_of hc] at this
theorem RepC.newT' {p : Addr} {vs : List V} {ds : List D} (hc : c ≠ .top) (hp : H p = none) (hO : OOk O H) (r : Reps K (under c O H) vs ds) : RepC K c O (upd H p (.tup vs)) (.ref p) (.tup ds) := by
  have := RepC.newT hp hO r
  rwa [Cls.der_of hc] at this
theorem RepC.newL' {p : Addr} {vs : List V} {ds : List D} (hc : c ≠ .top) (hp : H p = none) (hO : OOk O H) (r : Reps K (under c O H) vs ds) : RepC K c O (upd H p (.lst vs)) (.ref p) (.lst ds) := by
  have := RepC.newL hp hO r
  rwa [Cls.der_of hc] at this
end
section
variable {X : Cx}

/-! ### arithmetic -/
def BinOk (X : Cx) (op : Operator) (f : D → D → R D) : Prop := ∃ r2, OpR X (binaryOp op) r2 ∧ ∀ ca cb, Op2Ok X.K ca cb (ca.join cb) f r2
theorem b_add : BinOk X .Add addD := by
  refine ⟨_, op_add.or (op_add_str.or (op_catA.or op_cat)), fun ca cb O H x y d e d' Q ho rx ry hf hq => ?_⟩
  cases d <;> cases e <;> simp only [addD] at hf <;> try contradiction
  · cases rx.int; cases ry.int; cases hf
    exact .inl ⟨_, _, rfl, rfl, hq _ _ Ext.refl .mkI⟩
  · split at hf
    · rename_i hl
      cases hf
      obtain ⟨rfl, ox⟩ := rx.str
      obtain ⟨rfl, oy⟩ := ry.str
      refine .inr (.inl ⟨_, _, rfl, rfl, by rw [toS_length, toS_length, ← LN_eq]; exact hl, ?_⟩)
      rw [toS_append]
      exact hq _ _ Ext.refl (.mkS (ox.append oy hl))
    · cases hf
  · split at hf
    · rename_i hl
      cases hf
      have tx := rx.tup_under
      have ty := ry.tup_under
      obtain ⟨a, vs, rfl, hx, rvs⟩ := rx.tup
      obtain ⟨b, ws, rfl, hy, rws⟩ := ry.tup
      have l1 := rvs.length
      have l2 := rws.length
      refine .inr (.inr (.inl ⟨a, b, vs, ws, rfl, rfl, hx, hy, by rw [← LN_eq, l1, l2]; exact hl, fun e => ?_, fun _ e => ?_, fun _ _ p hp => ?_⟩))
      · subst e; cases rvs
        exact hq _ _ Ext.refl (RepC.of_u (Cls.join_ne _ _) (Rep.mono (under_join' ca cb).le ty))
      · subst e; cases rws
        rw [List.append_nil] at hq
        exact hq _ _ Ext.refl (RepC.of_u (Cls.join_ne _ _) (Rep.mono (under_join ca cb).le tx))
      · exact hq _ _ (Ext.new hp) (RepC.newT' (Cls.join_ne _ _) hp ho ((Reps.mono (under_join ca cb).le rvs).append (Reps.mono (under_join' ca cb).le rws)))
    · cases hf
  · split at hf
    · rename_i hl
      cases hf
      obtain ⟨a, vs, rfl, hx, rvs⟩ := rx.lst
      obtain ⟨b, ws, rfl, hy, rws⟩ := ry.lst
      have l1 := rvs.length
      have l2 := rws.length
      refine .inr (.inr (.inr ⟨a, b, vs, ws, rfl, rfl, hx, hy, by rw [← LN_eq, l1, l2]; exact hl, fun p hp => ?_⟩))
      exact hq _ _ (Ext.new hp) (RepC.newL' (Cls.join_ne _ _) hp ho ((Reps.mono (under_join ca cb).le rvs).append (Reps.mono (under_join' ca cb).le rws)))
    · cases hf
theorem b_sub : BinOk X .Sub subD := by
  refine ⟨_, op_sub, fun ca cb O H x y d e d' Q ho rx ry hf hq => ?_⟩
  cases d <;> cases e <;> simp only [subD] at hf <;> try contradiction
  cases rx.int; cases ry.int; cases hf
  exact ⟨_, _, rfl, rfl, hq _ _ Ext.refl .mkI⟩
theorem repL_eq (xs : List D) : ∀ k, repL xs k = (List.replicate k xs).flatten
  | 0 => rfl
  | k + 1 => by show xs ++ repL xs k = _; rw [repL_eq xs k]; rfl
theorem Reps.rep {K : PySem.W.Frag} {H : Hp} {vs : List V} {ds : List D} (r : Reps K H vs ds) : ∀ k, Reps K H (List.replicate k vs).flatten (repL ds k)
  | 0 => .nil
  | k + 1 => by
    show Reps K H (List.replicate (k + 1) vs).flatten (ds ++ repL ds k)
    rw [List.replicate_succ, List.flatten_cons]
    exact r.append (Reps.rep r k)
theorem b_mul : BinOk X .Mult mulD := by
  refine ⟨_, op_mul.or op_rep, fun ca cb O H x y d e d' Q ho rx ry hf hq => ?_⟩
  cases d <;> cases e <;> simp only [mulD] at hf <;> try contradiction
  · split at hf
    · rename_i hc
      cases rx.int; cases ry.int; cases hf
      refine .inl ⟨_, _, rfl, rfl, ?_, hq _ _ Ext.refl .mkI⟩
      unfold small64 at hc
      simp only [Bool.or_eq_true, Bool.and_eq_true, decide_eq_true_eq] at hc
      exact hc
    · cases hf
  · split at hf
    · rename_i hc
      cases ry.int
      cases hf
      obtain ⟨a, vs, rfl, hx, rvs⟩ := rx.lst
      have l1 := rvs.length
      have hL : LN = 16777216 := rfl
      refine .inr ⟨a, _, vs, rfl, rfl, hx, by omega, by omega, by rw [l1, ← LN_eq]; exact hc.2.2, fun p hp => ?_⟩
      exact hq _ _ (Ext.new hp) (RepC.newL' (Cls.join_ne _ _) hp ho (Reps.rep (Reps.mono (under_join ca cb).le rvs) _))
    · cases hf
theorem b_mod : BinOk X .Mod modD := by
  refine ⟨_, op_mod, fun ca cb O H x y d e d' Q ho rx ry hf hq => ?_⟩
  cases d <;> cases e <;> simp only [modD] at hf <;> try contradiction
  split at hf
  · rename_i hc
    cases rx.int; cases ry.int; cases hf
    exact ⟨_, _, rfl, rfl, hc, hq _ _ Ext.refl .mkI⟩
  · cases hf
theorem b_fdiv : BinOk X .FloorDiv fdivD := by
  refine ⟨_, op_fdiv, fun ca cb O H x y d e d' Q ho rx ry hf hq => ?_⟩
  cases d <;> cases e <;> simp only [fdivD] at hf <;> try contradiction
  split at hf
  · rename_i hc
    cases rx.int; cases ry.int; cases hf
    exact ⟨_, _, rfl, rfl, hc, hq _ _ Ext.refl .mkI⟩
  · cases hf
theorem b_pow : BinOk X .Pow powD := by
  refine ⟨_, op_pow, fun ca cb O H x y d e d' Q ho rx ry hf hq => ?_⟩
  cases d <;> cases e <;> simp only [powD] at hf <;> try contradiction
  split at hf
  · rename_i hc
    cases rx.int; cases ry.int; cases hf
    exact ⟨_, _, rfl, rfl, hc, hq _ _ Ext.refl .mkI⟩
  · cases hf

/-! ### comparisons -/
def CmpOk (X : Cx) (op : CmpOp) (f : D → D → R D) : Prop := ∃ r2, OpR X (compareOp op) r2 ∧ ∀ ca cb, Op2Ok X.K ca cb .clean f r2
theorem c_eq (hu : X.A.units + 64 < cLine) : CmpOk X .Eq (fun a b => blR (eqD a b)) := by
  refine ⟨_, op_eqR hu, fun ca cb O H x y d e d' Q ho rx ry hf hq => ?_⟩
  simp only [eqD, blR] at hf
  split at hf
  · rename_i hc
    cases hf
    exact ⟨d, e, rx.full, ry.full, hc, hq _ _ Ext.refl .mkB⟩
  · cases hf
theorem c_ne (hu : X.A.units + 64 < cLine) : CmpOk X .NotEq (fun a b => nblR (eqD a b)) := by
  refine ⟨_, op_neR hu, fun ca cb O H x y d e d' Q ho rx ry hf hq => ?_⟩
  simp only [eqD, nblR] at hf
  split at hf
  · rename_i hc
    cases hf
    exact ⟨d, e, rx.full, ry.full, hc, hq _ _ Ext.refl .mkB⟩
  · cases hf
theorem ltL_eq : ∀ x y : List Nat, ltL x y = decide (x < y)
  | [], [] => by simp [ltL]
  | [], _ :: _ => by simp [ltL]
  | _ :: _, [] => by simp [ltL]
  | a :: as, b :: bs => by
    show (if a < b then true else if a = b then ltL as bs else false) = _
    rw [Bool.eq_iff_iff, decide_eq_true_eq, List.cons_lt_cons_iff, ← decide_eq_true_eq (p := as < bs), ← ltL_eq as bs]
    by_cases h1 : a < b
    · simp [h1]
    · by_cases h2 : a = b
      · subst h2; simp [h1]
      · simp [h1, h2]
theorem c_lt : CmpOk X .Lt ltD := by
  refine ⟨_, op_lt.or op_lt_str, fun ca cb O H x y d e d' Q ho rx ry hf hq => ?_⟩
  cases d <;> cases e <;> simp only [ltD] at hf <;> try contradiction
  · cases rx.int; cases ry.int; cases hf
    exact .inl ⟨_, _, rfl, rfl, hq _ _ Ext.refl .mkB⟩
  · obtain ⟨rfl, _⟩ := rx.str
    obtain ⟨rfl, _⟩ := ry.str
    cases hf
    rw [ltL_eq] at hq
    exact .inr ⟨_, _, rfl, rfl, hq _ _ Ext.refl .mkB⟩
theorem c_gt : CmpOk X .Gt (fun a b => ltD b a) := by
  refine ⟨_, op_gt.or op_gt_str, fun ca cb O H x y d e d' Q ho rx ry hf hq => ?_⟩
  cases d <;> cases e <;> simp only [ltD] at hf <;> try contradiction
  · cases rx.int; cases ry.int; cases hf
    exact .inl ⟨_, _, rfl, rfl, hq _ _ Ext.refl .mkB⟩
  · obtain ⟨rfl, _⟩ := rx.str
    obtain ⟨rfl, _⟩ := ry.str
    cases hf
    rw [ltL_eq] at hq
    exact .inr ⟨_, _, rfl, rfl, hq _ _ Ext.refl .mkB⟩
theorem c_le : CmpOk X .LtE leD := by
  refine ⟨_, op_le, fun ca cb O H x y d e d' Q ho rx ry hf hq => ?_⟩
  cases d <;> cases e <;> simp only [leD] at hf <;> try contradiction
  cases rx.int; cases ry.int; cases hf
  exact ⟨_, _, rfl, rfl, hq _ _ Ext.refl .mkB⟩
theorem c_ge : CmpOk X .GtE (fun a b => leD b a) := by
  refine ⟨_, op_ge, fun ca cb O H x y d e d' Q ho rx ry hf hq => ?_⟩
  cases d <;> cases e <;> simp only [leD] at hf <;> try contradiction
  cases rx.int; cases ry.int; cases hf
  exact ⟨_, _, rfl, rfl, hq _ _ Ext.refl .mkB⟩
/-- is of anything and None or a truth -/
def rIsA (neg : Bool) : R2 := fun x y H Q => (y = .non ∧ Q (.bl (if neg then !decide (x = .non) else decide (x = .non))) H) ∨
  ∃ c, y = .bl c ∧ (∃ d K, Rep K H x d) ∧ Q (.bl (if neg then !decide (x = .bl c) else decide (x = .bl c))) H
theorem is_bl_same {M : Model} {A : Around} {E : Value → Shared → Prop} {s : Shared} {Q : Value → Shared → Prop} {x : V} {v : Value} {c : Bool} (r : RelV x v) (hx : ∃ d K H, Rep K H x d) (h : Q (.bool (decide (x = .bl c))) s) : wpAny M A (compareOp .Is v (.bool c)) Q E s := by
  obtain ⟨d, K, H, hx⟩ := hx
  cases hx with
  | non => cases r; exact wpAny_pure h
  | bl b =>
    cases r
    refine is_bool ?_
    have e : decide (V.bl b = V.bl c) = (b == c) := dec_bl
    rw [e] at h; exact h
  | int i => obtain ⟨t, rfl⟩ := r; exact wpAny_pure h
  | str _ => obtain ⟨t, rfl⟩ := r; exact wpAny_pure h
  | tup _ _ => cases r; exact wpAny_pure h
  | lst _ _ => cases r; exact wpAny_pure h
  | scr _ => cases r; exact wpAny_pure h
  | dct _ _ => cases r; exact wpAny_pure h
theorem isnot_bl_same {M : Model} {A : Around} {E : Value → Shared → Prop} {s : Shared} {Q : Value → Shared → Prop} {x : V} {v : Value} {c : Bool} (r : RelV x v) (hx : ∃ d K H, Rep K H x d) (h : Q (.bool (!decide (x = .bl c))) s) : wpAny M A (compareOp .IsNot v (.bool c)) Q E s := by
  obtain ⟨d, K, H, hx⟩ := hx
  cases hx with
  | non => cases r; exact wpAny_pure h
  | bl b =>
    cases r
    refine isnot_bool ?_
    have e : (!decide (V.bl b = V.bl c)) = (b != c) := by rw [dec_bl]; rfl
    rw [e] at h; exact h
  | int i => obtain ⟨t, rfl⟩ := r; exact wpAny_pure h
  | str _ => obtain ⟨t, rfl⟩ := r; exact wpAny_pure h
  | tup _ _ => cases r; exact wpAny_pure h
  | lst _ _ => cases r; exact wpAny_pure h
  | scr _ => cases r; exact wpAny_pure h
  | dct _ _ => cases r; exact wpAny_pure h
theorem op_isA : OpR X (compareOp .Is) (rIsA false) := by
  intro pins s σ H x y v u Q I rx ry h
  rcases h with ⟨rfl, q⟩ | ⟨c, rfl, ⟨d, K, hd⟩, q⟩
  · exact op_isN pins s σ H x .non v u Q I rx ry ⟨rfl, q⟩
  · cases ry
    exact is_bl_same rx ⟨d, K, H, hd⟩ ⟨.bl _, H, I, rfl, q⟩
theorem op_isnotA : OpR X (compareOp .IsNot) (rIsA true) := by
  intro pins s σ H x y v u Q I rx ry h
  rcases h with ⟨rfl, q⟩ | ⟨c, rfl, ⟨d, K, hd⟩, q⟩
  · exact op_notN pins s σ H x .non v u Q I rx ry ⟨rfl, q⟩
  · cases ry
    exact isnot_bl_same rx ⟨d, K, H, hd⟩ ⟨.bl _, H, I, rfl, q⟩
theorem Rep.is_non {K : PySem.W.Frag} {H : Hp} {x : V} {d : D} (r : Rep K H x d) : decide (x = .non) = isNon d := by
  cases r <;> rfl
theorem Rep.is_bl {K : PySem.W.Frag} {H : Hp} {x : V} {d : D} {c : Bool} (r : Rep K H x d) : decide (x = .bl c) = isBl c d := by
  cases r with
  | bl b => exact dec_bl
  | _ => rfl
theorem c_is : CmpOk X .Is isD := by
  refine ⟨_, op_isA, fun ca cb O H x y d e d' Q ho rx ry hf hq => ?_⟩
  cases e <;> simp only [isD] at hf <;> try contradiction
  · cases ry.non; cases hf
    refine .inl ⟨rfl, ?_⟩
    have e := rx.full.is_non
    simp only [Bool.false_eq_true, if_false]
    rw [e]; exact hq _ _ Ext.refl .mkB
  · cases ry.bl; cases hf
    refine .inr ⟨_, rfl, ⟨_, _, rx.full⟩, ?_⟩
    simp only [Bool.false_eq_true, if_false]
    rw [rx.full.is_bl]; exact hq _ _ Ext.refl .mkB
theorem c_isnot : CmpOk X .IsNot (fun a b => notR (isD a b)) := by
  refine ⟨_, op_isnotA, fun ca cb O H x y d e d' Q ho rx ry hf hq => ?_⟩
  cases e <;> simp only [isD, notR, R.bind_ok, R.bind_bad] at hf <;> try contradiction
  · cases ry.non; cases hf
    refine .inl ⟨rfl, ?_⟩
    have e := rx.full.is_non
    simp only [if_true]
    rw [e]; exact hq _ _ Ext.refl .mkB
  · cases ry.bl; cases hf
    refine .inr ⟨_, rfl, ⟨_, _, rx.full⟩, ?_⟩
    simp only [if_true]
    rw [rx.full.is_bl]; exact hq _ _ Ext.refl .mkB

/-! ### keys of dicts -/
theorem kD_inj {k k' : Key} : kD k = kD k' → k = k' := by
  cases k <;> cases k' <;> intro h
  · cases h; rfl
  · cases h
  · cases h
  · rename_i x y
    have : x.cps.toList = y.cps.toList := D.str.inj h
    rw [Str.ext' (Array.toList_inj.mp this)]
theorem eqv_key (k k' : Key) : eqv (kD k) (kD k') = decide (k = k') := by
  cases k <;> cases k'
  · rename_i i j; show (i == j) = _; rw [key_ll]
  · rename_i i y; rw [key_lr]; rfl
  · rename_i x j; rw [key_rl]; rfl
  · rename_i x y
    rw [key_rr]
    show (x.cps.toList == y.cps.toList) = _
    by_cases h : x = y
    · subst h; simp
    · have : x.cps.toList ≠ y.cps.toList := fun e => h (Str.ext' (Array.toList_inj.mp e))
      rw [beq_eq_false_iff_ne.mpr this, decide_eq_false h]
/-- a key as the hand layer has it -/
theorem Rep.key {K : PySem.W.Frag} {H : Hp} {x : V} {d : D} (r : Rep K H x d) (h : isKey d = true) : ∃ k : Key, x = kV k ∧ d = kD k := by
  cases r with
  | int i => exact ⟨.inl i, rfl, rfl⟩
  | str _ => exact ⟨.inr (toS _), rfl, rfl⟩
  | _ => cases h
theorem RepK.look {K : PySem.W.Frag} {H : Hp} (k : Key) : ∀ {kvs : List (Key × V)} {ds : List (D × D)}, RepK K H kvs ds →
    (lookD ds (kD k) = none ∧ valV kvs k = none) ∨ ∃ d v, lookD ds (kD k) = some d ∧ valV kvs k = some v ∧ Rep K H v d
  | _, _, .nil => .inl ⟨rfl, rfl⟩
  | _, _, .cons (k := k') (v := v) (d := d) (ds := ds) _ r t => by
    by_cases e : k' = k
    · subst e
      refine .inr ⟨d, v, ?_, valV_pos rfl, r⟩
      show (if eqv (kD k') (kD k') = true then some d else lookD ds (kD k')) = some d
      rw [eqv_key, decide_eq_true rfl, if_pos rfl]
    · have h1 : lookD ((kD k', d) :: ds) (kD k) = lookD ds (kD k) := by
        show (if eqv (kD k') (kD k) = true then some d else lookD ds (kD k)) = _
        rw [eqv_key, decide_eq_false e, if_neg Bool.false_ne_true]
      rw [h1, valV_neg e]
      exact RepK.look k t
/-! ### in -/
def rInA (K : PySem.W.Frag) (neg : Bool) : R2 := fun x y H Q => rInR K neg x y H Q ∨ (∃ (c : Nat) (z : Str), x = .str ⟨#[c]⟩ ∧ y = .str z ∧ Q (.bl (if neg then !decide (c ∈ z.cps.toList) else decide (c ∈ z.cps.toList))) H) ∨
  ∃ a o, y = .ref a ∧ DGet H a x o ∧ Q (.bl (if neg then !o.isSome else o.isSome)) H
theorem op_inA (hu : X.A.units + 64 < cLine) : OpR X (compareOp .In) (rInA X.K false) := by
  intro pins s σ H x y v u Q I rx ry h
  rcases h with h | ⟨c, z, h1, h2, q⟩ | ⟨a, o, rfl, g, q⟩
  · exact op_inR hu pins s σ H x y v u Q I rx ry h
  · exact op_in_sign pins s σ H x y v u Q I rx ry ⟨c, z, h1, h2, q⟩
  · cases ry
    exact d_in (by omega) I g rx fun s' I' => ⟨.bl _, H, I', rfl, q⟩
theorem op_notInA (hu : X.A.units + 64 < cLine) : OpR X (compareOp .NotIn) (rInA X.K true) := by
  intro pins s σ H x y v u Q I rx ry h
  rcases h with h | ⟨c, z, h1, h2, q⟩ | ⟨a, o, rfl, g, q⟩
  · exact op_notInR hu pins s σ H x y v u Q I rx ry h
  · exact op_notIn_sign pins s σ H x y v u Q I rx ry ⟨c, z, h1, h2, q⟩
  · cases ry
    exact d_notIn (by omega) I g rx fun s' I' => ⟨.bl _, H, I', rfl, q⟩
theorem inA_of {K : PySem.W.Frag} {neg : Bool} {ca cb : Cls} {O : Hid} {H : Hp} {x y : V} {d e : D} {b : Bool} {Q : VK} (rx : RepC K ca O H x d) (ry : RepC K cb O H y e) (hf : inD d e = .ok b) (hq : Q (.bl (if neg then !b else b)) H) : rInA K neg x y H Q := by
  cases e <;> simp only [inD] at hf <;> try contradiction
  · -- a text
    rename_i z
    split at hf
    · rename_i c
      obtain ⟨rfl, _⟩ := rx.str
      obtain ⟨rfl, _⟩ := ry.str
      cases hf
      refine .inr (.inl ⟨c, toS z, rfl, rfl, ?_⟩)
      have e : decide (c ∈ (toS z).cps.toList) = z.contains c := by
        rw [toS_list, Bool.eq_iff_iff]; simp
      rw [e]; exact hq
    · cases hf
  · -- a tuple
    rename_i ds
    split at hf
    · rename_i ok
      cases hf
      obtain ⟨a, vs, rfl, hy, rvs⟩ := ry.tup
      exact .inl ⟨a, vs, d, ds, rfl, .inr hy, rx.full, Reps.mono (under_ext cb).le rvs, ok, hq⟩
    · cases hf
  · rename_i ds
    split at hf
    · rename_i ok
      cases hf
      obtain ⟨a, vs, rfl, hy, rvs⟩ := ry.lst
      exact .inl ⟨a, vs, d, ds, rfl, .inl (.inl (.inl hy)), rx.full, Reps.mono (under_ext cb).le rvs, ok, hq⟩
    · cases hf
  · rename_i ds
    split at hf
    · rename_i ok
      cases hf
      obtain ⟨a, kvs, rfl, hy, rk⟩ := ry.dct
      obtain ⟨k, rfl, rfl⟩ := rx.full.key ok
      rcases rk.look k with ⟨h1, h2⟩ | ⟨d', v, h1, h2, _⟩
      · rw [h1] at hq
        exact .inr (.inr ⟨a, none, rfl, .inl ⟨kvs, k, hy, rfl, h2.symm⟩, hq⟩)
      · rw [h1] at hq
        exact .inr (.inr ⟨a, some v, rfl, .inl ⟨kvs, k, hy, rfl, h2.symm⟩, hq⟩)
    · cases hf
theorem c_in (hu : X.A.units + 64 < cLine) : CmpOk X .In (fun a b => blR (inD a b)) := by
  refine ⟨_, op_inA hu, fun ca cb O H x y d e d' Q ho rx ry hf hq => ?_⟩
  obtain ⟨b, h1, h2⟩ := R.bind_eq_ok hf
  cases h2
  exact inA_of rx ry h1 (hq _ _ Ext.refl .mkB)
theorem c_notin (hu : X.A.units + 64 < cLine) : CmpOk X .NotIn (fun a b => nblR (inD a b)) := by
  refine ⟨_, op_notInA hu, fun ca cb O H x y d e d' Q ho rx ry hf hq => ?_⟩
  obtain ⟨b, h1, h2⟩ := R.bind_eq_ok hf
  cases h2
  exact inA_of rx ry h1 (hq _ _ Ext.refl .mkB)
end
end TQ

/-! DS5: subscripts, slices, builtins. -/
namespace TQ
open PySem PySem.Spec PyProof.Rows L2

theorem nthD_eq {α : Type} : ∀ (xs : List α) (k : Nat), nthD xs k = xs[k]?
  | [], _ => by simp [nthD]
  | _ :: _, 0 => by simp [nthD]
  | _ :: xs, k + 1 => by simp [nthD, nthD_eq xs k]
theorem itemD_at {α : Type} (xs : List α) (i : Int) : itemD xs i = atI xs i := by
  unfold itemD atI
  show (ixN xs.length i).bind _ = (ixN xs.length i).bind _
  congr 1; funext j; exact nthD_eq xs j
theorem Reps.at_ {K : PySem.W.Frag} {H : Hp} {vs : List V} {ds : List D} {i : Int} {d : D} (r : Reps K H vs ds) (h : itemD ds i = some d) : ∃ v, atI vs i = some v ∧ Rep K H v d := by
  rw [itemD_at] at h
  unfold atI at h ⊢
  rw [r.length]
  cases e : ixN ds.length i with
  | none => rw [e] at h; cases h
  | some j => rw [e] at h; exact r.get h
theorem ofO_ok {α β : Type} {o : Option α} {f : α → R β} {b : β} (h : ofO o f = .ok b) : ∃ a, o = some a ∧ f a = .ok b := by
  cases o with
  | none => cases h
  | some a => exact ⟨a, rfl, h⟩
section
variable {X : Cx}
/-! ### subscripts -/
def rIxD : R2 := fun x y H Q => ∃ a v, x = .ref a ∧ DGet H a y (some v) ∧ Q v H
theorem ix_dict (hu : X.A.units + 1 < cLine) : IxR X rIxD := by
  intro value slice pins s σ H x y v u Q I rx ry h hs
  obtain ⟨a, w, rfl, g, q⟩ := h
  cases rx
  exact tail_any (dict_typeIs I g) PySem.F.slot_dict_getitem.lookup (d_getItem hu I g ry fun w' s' I' r' => ⟨w, H, I', r', q⟩) hs
def IxOk (X : Cx) (f : D → D → R D) : Prop := ∃ r2, IxR X r2 ∧ ∀ ca cb, Op2Ok X.K ca cb ca.der f r2
theorem okS_one {x : List Nat} {c : Nat} {i : Int} (h : okS x) (hc : itemD x i = some c) : okS [c] := by
  rw [itemD_at] at hc
  obtain ⟨j, _, h2, _⟩ := atI_get hc
  refine ⟨by show 1 ≤ LN; unfold LN; omega, fun z hz => ?_⟩
  rw [List.mem_singleton.mp hz]
  exact h.2 c (List.mem_of_getElem? h2)
theorem x_ix (hu : X.A.units + 1 < cLine) : IxOk X ixD := by
  refine ⟨_, ix_seq.or (ix_dict hu), fun ca cb O H x y d e d' Q ho rx ry hf hq => ?_⟩
  cases d <;> simp only [ixD] at hf <;> try contradiction
  · -- a text
    cases e <;> simp only [ixD] at hf <;> try contradiction
    obtain ⟨c, h1, h2⟩ := ofO_ok hf
    cases h2
    obtain ⟨rfl, ox⟩ := rx.str
    cases ry.int
    refine .inl (.inr (.inr ⟨_, _, c, rfl, rfl, by rw [toS_length, ← LN_eq]; exact ox.1, ?_, hq _ _ Ext.refl (.mkS (okS_one ox h1))⟩))
    rw [toS_list, ← itemD_at]; exact h1
  · cases e <;> simp only [ixD] at hf <;> try contradiction
    obtain ⟨c, h1, h2⟩ := ofO_ok hf
    cases h2
    obtain ⟨a, vs, rfl, hx, rvs⟩ := rx.tup
    cases ry.int
    obtain ⟨v, h3, rv⟩ := rvs.at_ h1
    exact .inl (.inr (.inl ⟨a, vs, _, v, rfl, rfl, hx, h3, hq _ _ Ext.refl (RepC.of_under rv)⟩))
  · cases e <;> simp only [ixD] at hf <;> try contradiction
    obtain ⟨c, h1, h2⟩ := ofO_ok hf
    cases h2
    obtain ⟨a, vs, rfl, hx, rvs⟩ := rx.lst
    cases ry.int
    obtain ⟨v, h3, rv⟩ := rvs.at_ h1
    exact .inl (.inl ⟨a, vs, _, v, rfl, rfl, SqL.of hx, h3, hq _ _ Ext.refl (RepC.of_under rv)⟩)
  · cases e <;> simp only [ixD] at hf <;> try contradiction
    obtain ⟨c, h1, h2⟩ := ofO_ok hf
    cases h2
    obtain ⟨a, rfl, hx⟩ := rx.scr
    cases ry.int
    rw [itemD_at] at h1
    obtain ⟨j, e1, e2, e3, e4, e5⟩ := atI_get h1
    refine .inl (.inl ⟨a, _, _, .int c, rfl, rfl, hx, ?_, hq _ _ Ext.refl .mkI⟩)
    unfold atI at h1 ⊢
    rw [List.length_map]
    cases q : ixN _ _ with
    | none => rw [q] at h1; cases h1
    | some k =>
      rw [q] at h1
      rename_i ns i
      have h1 : ns[k]? = some c := h1
      show (List.map V.int ns)[k]? = some (V.int c)
      rw [List.getElem?_map, h1]; rfl
  · rename_i ds
    split at hf
    · rename_i ok
      obtain ⟨c, h1, h2⟩ := ofO_ok hf
      cases h2
      obtain ⟨a, kvs, rfl, hx, rk⟩ := rx.dct
      obtain ⟨k, rfl, rfl⟩ := ry.full.key ok
      rcases rk.look k with ⟨h3, h4⟩ | ⟨d2, v, h3, h4, r⟩
      · rw [h3] at h1; cases h1
      · rw [h3] at h1; cases h1
        exact .inr ⟨a, v, rfl, .inl ⟨kvs, k, hx, rfl, h4.symm⟩, hq _ _ Ext.refl (RepC.of_under r)⟩
    · cases hf

/-! ### slices -/
theorem cutL_v {K : PySem.W.Frag} {H : Hp} {vs : List V} {ds : List D} (r : Reps K H vs ds) (l h : Option Int) : Reps K H (cutV vs l h) (cutL ds l h) := by
  have e : cutV vs l h = (vs.drop (cutAt vs.length 0 l)).take (cutAt vs.length vs.length h - cutAt vs.length 0 l) := by cases l <;> cases h <;> rfl
  rw [e, r.length]
  exact (r.drop _).take _
theorem cutL_whole {ds : List D} {l h : Option Int} (e1 : HT.sIx ds.length 0 l = 0) (e2 : HT.sIx ds.length ds.length h = ds.length) : cutL ds l h = ds := by
  have e : cutL ds l h = (ds.drop (HT.sIx ds.length 0 l)).take (HT.sIx ds.length ds.length h - HT.sIx ds.length 0 l) := by cases l <;> cases h <;> rfl
  rw [e, e1, e2]; simp
theorem cutS_eq (x : List Nat) (l h : Option Int) : cutS (toS x) l h = toS (cutL x l h) := by
  have e : cutL x l h = (x.drop (HT.sIx x.length 0 l)).take (HT.sIx x.length x.length h - HT.sIx x.length 0 l) := by cases l <;> cases h <;> rfl
  rw [e]
  unfold cutS
  rw [toS_length, toS_list]
theorem okS_cut {x : List Nat} (ox : okS x) (l h : Option Int) : okS (cutL x l h) := by
  refine ox.sub ?_ fun c hc => List.mem_of_mem_drop (List.mem_of_mem_take hc)
  unfold cutL
  rw [List.length_take, List.length_drop]; omega
def rCut (K : PySem.W.Frag) : V → Option Int → Option Int → Hp → VK → Prop := fun x l h H Q => rSlA K x l h H Q ∨ rSlL K x l h H Q ∨ rSlS x l h H Q
theorem sl_all : SlR X (rCut X.K) := sl_tupA.or (sl_list.or sl_str)
theorem cut_ok {K : PySem.W.Frag} {ca : Cls} {O : Hid} {H : Hp} {x : V} {d d' : D} {l h : Option Int} {Q : VK} (ho : OOk O H) (rx : RepC K ca O H x d) (hf : cutR d l h = .ok d') (hq : ∀ v H', Ext H H' → RepC K ca.der O H' v d' → Q v H') : rCut K x l h H Q := by
  cases d <;> simp only [cutR] at hf <;> try contradiction
  · cases hf
    obtain ⟨rfl, ox⟩ := rx.str
    refine .inr (.inr ⟨_, rfl, by rw [toS_length, ← LN_eq]; exact ox.1, ?_⟩)
    rw [cutS_eq]
    exact hq _ _ Ext.refl (.mkS (okS_cut ox l h))
  · cases hf
    have tx := rx.tup_under
    obtain ⟨a, vs, rfl, hx, rvs⟩ := rx.tup
    have hl := rvs.length
    refine .inl ⟨a, vs, rfl, hx, fun ⟨e1, e2⟩ => ?_, fun _ p hp => ?_⟩
    · rw [hl] at e1 e2
      rw [cutL_whole e1 e2] at hq
      exact hq _ _ Ext.refl (RepC.of_under tx)
    · exact hq _ _ (Ext.new hp) (RepC.newT hp ho (cutL_v rvs l h))
  · cases hf
    obtain ⟨a, vs, rfl, hx, rvs⟩ := rx.lst
    exact .inr (.inl ⟨a, vs, rfl, SqL.of hx, fun p hp => hq _ _ (Ext.new hp) (RepC.newL hp ho (cutL_v rvs l h))⟩)

/-! ### builtins of one argument -/
def CallOk1 (X : Cx) (f : Value) (g : D → R D) (cf : Cls → Cls) : Prop := ∃ r, CallR X f r ∧ ∀ ca, Op1Ok X.K ca (cf ca) g (fun x H Q => r [x] H Q)
abbrev cln : Cls → Cls := fun _ => .clean
theorem call_lenR : CallR X (.builtin "len") (fun xs H Q => ∃ a kvs, xs = [V.ref a] ∧ Rd H a (.dK kvs) ∧ Q (.int kvs.length) H) := by
  intro pins s σ H xs us Q I r h
  obtain ⟨a, kvs, rfl, ha, q⟩ := h
  obtain ⟨u, rfl, ru⟩ := vals1 r
  cases ru
  exact d_len I ha fun t s' I' => ⟨.int kvs.length, H, I', ⟨t, rfl⟩, q⟩
theorem f_len : CallOk1 X (.builtin "len") lenD cln := by
  refine ⟨_, call_len_seq.or (call_len_str.or call_lenR), fun ca O H x d d' Q ho rx hf hq => ?_⟩
  cases d <;> simp only [lenD] at hf <;> try contradiction
  · cases hf
    obtain ⟨rfl, ox⟩ := rx.str
    refine .inr (.inl ⟨_, rfl, by rw [toS_length, ← LN_eq]; exact ox.1, ?_⟩)
    rw [toS_length]
    exact hq _ _ Ext.refl .mkI
  · cases hf
    obtain ⟨a, vs, rfl, hx, rvs⟩ := rx.tup
    refine .inl ⟨a, vs, rfl, .inr hx, ?_⟩
    rw [rvs.length]; exact hq _ _ Ext.refl .mkI
  · cases hf
    obtain ⟨a, vs, rfl, hx, rvs⟩ := rx.lst
    refine .inl ⟨a, vs, rfl, .inl (SqL.of hx), ?_⟩
    rw [rvs.length]; exact hq _ _ Ext.refl .mkI
  · cases hf
    obtain ⟨a, rfl, hx⟩ := rx.scr
    refine .inl ⟨a, _, rfl, .inl hx, ?_⟩
    rw [List.length_map]; exact hq _ _ Ext.refl .mkI
  · cases hf
    obtain ⟨a, kvs, rfl, hx, rk⟩ := rx.dct
    refine .inr (.inr ⟨a, kvs, rfl, hx, ?_⟩)
    rw [rk.length]; exact hq _ _ Ext.refl .mkI
theorem Reps.bools {K : PySem.W.Frag} {H : Hp} : ∀ {vs : List V} {ds : List D} {bs : List Bool}, Reps K H vs ds → boolsD ds = some bs → vs = bs.map V.bl
  | _, _, bs, .nil, h => by cases h; rfl
  | _, _, bs, .cons (d := d) r t, h => by
    cases d with
    | bl b =>
      obtain ⟨cs, h1, h2⟩ := Option.map_eq_some_iff.mp (show (boolsD _).map (b :: ·) = some bs from h)
      subst h2
      cases r
      rw [Reps.bools t h1]; rfl
    | _ => cases h
theorem Reps.ints {K : PySem.W.Frag} {H : Hp} : ∀ {vs : List V} {ds : List D} {bs : List Int}, Reps K H vs ds → intsD ds = some bs → vs = bs.map V.int
  | _, _, bs, .nil, h => by cases h; rfl
  | _, _, bs, .cons (d := d) r t, h => by
    cases d with
    | int b =>
      obtain ⟨cs, h1, h2⟩ := Option.map_eq_some_iff.mp (show (intsD _).map (b :: ·) = some bs from h)
      subst h2
      cases r
      rw [Reps.ints t h1]; rfl
    | _ => cases h
theorem Reps.strs {K : PySem.W.Frag} {H : Hp} : ∀ {vs : List V} {ds : List D} {bs : List (List Nat)}, Reps K H vs ds → strsD ds = some bs → vs = bs.map (fun x => V.str (toS x)) ∧ ∀ x ∈ bs, okS x
  | _, _, bs, .nil, h => by cases h; exact ⟨rfl, fun _ h => nomatch h⟩
  | _, _, bs, .cons (d := d) r t, h => by
    cases d with
    | str b =>
      obtain ⟨cs, h1, h2⟩ := Option.map_eq_some_iff.mp (show (strsD _).map (b :: ·) = some bs from h)
      subst h2
      cases r with
      | str ok =>
        obtain ⟨e, h3⟩ := Reps.strs t h1
        refine ⟨by rw [e]; rfl, fun x hx => ?_⟩
        rcases List.mem_cons.mp hx with rfl | hx
        · exact ok
        · exact h3 x hx
    | _ => cases h
theorem f_all (hc : X.calm = true) : CallOk1 X (.builtin "all") allD cln := by
  refine ⟨_, cr_all hc, fun ca O H x d d' Q ho rx hf hq => ?_⟩
  cases d <;> simp only [allD] at hf <;> try contradiction
  obtain ⟨bs, h1, h2⟩ := ofO_ok hf
  cases h2
  obtain ⟨a, vs, rfl, hx, rvs⟩ := rx.lst
  exact ⟨a, bs, rfl, SqL.of (by rw [← rvs.bools h1]; exact hx), hq _ _ Ext.refl .mkB⟩
theorem f_any (hc : X.calm = true) : CallOk1 X (.builtin "any") anyD cln := by
  refine ⟨_, cr_any hc, fun ca O H x d d' Q ho rx hf hq => ?_⟩
  cases d <;> simp only [anyD] at hf <;> try contradiction
  obtain ⟨bs, h1, h2⟩ := ofO_ok hf
  cases h2
  obtain ⟨a, vs, rfl, hx, rvs⟩ := rx.lst
  exact ⟨a, bs, rfl, SqL.of (by rw [← rvs.bools h1]; exact hx), hq _ _ Ext.refl .mkB⟩
theorem f_sum (hc : X.calm = true) : CallOk1 X (.builtin "sum") sumD cln := by
  refine ⟨_, cr_sum hc, fun ca O H x d d' Q ho rx hf hq => ?_⟩
  cases d <;> simp only [sumD] at hf <;> try contradiction
  · obtain ⟨bs, h1, h2⟩ := ofO_ok hf
    cases h2
    obtain ⟨a, vs, rfl, hx, rvs⟩ := rx.lst
    exact ⟨a, bs, rfl, SqL.of (by rw [← rvs.ints h1]; exact hx), hq _ _ Ext.refl .mkI⟩
  · cases hf
    obtain ⟨a, rfl, hx⟩ := rx.scr
    exact ⟨a, _, rfl, hx, hq _ _ Ext.refl .mkI⟩
theorem f_int : CallOk1 X (.type "int") intD cln := by
  refine ⟨_, call_int1, fun ca O H x d d' Q ho rx hf hq => ?_⟩
  cases d <;> simp only [intD] at hf <;> try contradiction
  · cases rx.bl; cases hf
    exact .inr ⟨_, rfl, hq _ _ Ext.refl .mkI⟩
  · cases rx.int; cases hf
    exact .inl ⟨_, rfl, hq _ _ Ext.refl .mkI⟩
theorem f_list : CallOk1 X (.type "list") listD Cls.der := by
  refine ⟨_, call_list_of, fun ca O H x d d' Q ho rx hf hq => ?_⟩
  cases d <;> simp only [listD] at hf <;> try contradiction
  · cases hf
    obtain ⟨a, vs, rfl, hx, rvs⟩ := rx.tup
    exact ⟨a, vs, rfl, .inr hx, fun p hp => hq _ _ (Ext.new hp) (RepC.newL hp ho rvs)⟩
  · cases hf
    obtain ⟨a, vs, rfl, hx, rvs⟩ := rx.lst
    exact ⟨a, vs, rfl, .inl (SqL.of hx), fun p hp => hq _ _ (Ext.new hp) (RepC.newL hp ho rvs)⟩
theorem f_tuple : CallOk1 X (.type "tuple") tupleD Cls.der := by
  refine ⟨_, call_tuple_of, fun ca O H x d d' Q ho rx hf hq => ?_⟩
  cases d <;> simp only [tupleD] at hf <;> try contradiction
  · cases hf
    have tx := rx.tup_under
    obtain ⟨a, vs, rfl, hx, rvs⟩ := rx.tup
    exact ⟨a, vs, rfl, .inr ⟨hx, hq _ _ Ext.refl (RepC.of_under tx)⟩⟩
  · cases hf
    obtain ⟨a, vs, rfl, hx, rvs⟩ := rx.lst
    exact ⟨a, vs, rfl, .inl ⟨SqL.of hx, fun p hp => hq _ _ (Ext.new hp) (RepC.newT hp ho rvs)⟩⟩
/-! ### of two arguments -/
def CallOk2 (X : Cx) (f : Value) (g : D → D → R D) : Prop := ∃ r, CallR X f r ∧ ∀ ca cb, Op2Ok X.K ca cb .clean g (fun x y H Q => r [x, y] H Q)
theorem f_max2 (hc : X.calm = true) : CallOk2 X (.builtin "max") max2D := by
  refine ⟨_, call_max2 hc, fun ca cb O H x y d e d' Q ho rx ry hf hq => ?_⟩
  cases d <;> cases e <;> simp only [max2D] at hf <;> try contradiction
  cases rx.int; cases ry.int; cases hf
  exact ⟨_, _, rfl, hq _ _ Ext.refl .mkI⟩
theorem f_min2 (hc : X.calm = true) : CallOk2 X (.builtin "min") min2D := by
  refine ⟨_, call_min2 hc, fun ca cb O H x y d e d' Q ho rx ry hf hq => ?_⟩
  cases d <;> cases e <;> simp only [min2D] at hf <;> try contradiction
  cases rx.int; cases ry.int; cases hf
  exact ⟨_, _, rfl, hq _ _ Ext.refl .mkI⟩
/-! ### isinstance -/
def tyName : Ty → String
  | .str => "str" | .int => "int" | .bool => "bool" | .tuple => "tuple" | .list => "list"
theorem sqt_ty {K : PySem.W.Frag} {H : Hp} {a : Addr} {xs : List V} (h : SqT K H a xs) : TyX K H (.ref a) (.type "tuple") := by
  rcases h with (h | ⟨o, h⟩) | ⟨o, its, n, h, hc, _⟩
  · exact .base (.tup h)
  · exact .fTuple h
  · exact .kTuple h hc
theorem f_isi (t : Ty) : ∃ r, CallR X (.builtin "isinstance") r ∧ ∀ ca, Op1Ok X.K ca .clean (isiD t) (fun x H Q => r [x, .ty (tyName t)] H Q) := by
  refine ⟨_, call_isi, fun ca O H x d d' Q ho rx hf hq => ?_⟩
  have fin : ∀ {v : V} {n : String} {b : Bool}, TyX X.K H v (.type n) → kitB n (tyName t) = some b → d' = .bl b → x = v → (∃ (x1 c : V) (t1 u : Value) (b1 : Bool), [x, V.ty (tyName t)] = [x1, c] ∧ ClsV c u ∧ TyX X.K H x1 t1 ∧ PySem.W.kitOne X.K t1 u = some b1 ∧ Q (.bl b1) H) := fun {v n b} ty k e ex => by
    subst ex; subst e
    exact ⟨_, _, _, _, b, rfl, .ty _, ty, kit_ty k, hq _ _ Ext.refl .mkB⟩
  cases d <;> simp only [isiD] at hf <;> try contradiction
  · cases hf; exact fin (v := .non) (.base .non) (by cases t <;> decide +kernel) rfl rx.non
  · cases hf; exact fin (.base (.bl _)) (by cases t <;> decide +kernel) rfl rx.bl
  · cases hf; exact fin (.base (.int _)) (by cases t <;> decide +kernel) rfl rx.int
  · cases hf; exact fin (.base (.str _)) (by cases t <;> decide +kernel) rfl rx.str.1
  · cases hf
    obtain ⟨a, vs, rfl, hx, rvs⟩ := rx.tup
    exact fin (sqt_ty hx) (by cases t <;> decide +kernel) rfl rfl
  · cases hf
    obtain ⟨a, vs, rfl, hx, rvs⟩ := rx.lst
    exact fin (.base (.lst hx)) (by cases t <;> decide +kernel) rfl rfl
/-! ### unary -/
theorem u_neg : ∃ r, UnR X (unaryOp .USub) r ∧ ∀ ca, Op1Ok X.K ca .clean (do1 .neg) r := by
  refine ⟨_, un_neg, fun ca O H x d d' Q ho rx hf hq => ?_⟩
  cases d <;> simp only [do1] at hf <;> try contradiction
  cases rx.int; cases hf
  exact ⟨_, rfl, hq _ _ Ext.refl .mkI⟩

/-! ### truth -/
theorem Reps.isEmpty {K : PySem.W.Frag} {H : Hp} {vs : List V} {ds : List D} (r : Reps K H vs ds) : vs.isEmpty = ds.isEmpty := by cases r <;> rfl
theorem tru_of {K : PySem.W.Frag} {ca : Cls} {O : Hid} {H : Hp} {x : V} {d : D} {b : Bool} (rx : RepC K ca O H x d) (h : truthD d = .ok b) : TruV K x H b := by
  cases d <;> simp only [truthD] at h <;> try contradiction
  · cases h; cases rx.non; rfl
  · cases h; cases rx.bl; rfl
  · cases h; cases rx.int; rfl
  · cases h
    obtain ⟨rfl, ox⟩ := rx.str
    refine ⟨by rw [toS_length, ← LN_eq]; exact ox.1, ?_⟩
    rw [toS_length]
    rename_i x
    cases x with
    | nil => rfl
    | cons a r =>
      show true = _
      symm
      rw [bne_iff_ne]
      show ((r.length + 1 : Nat) : Int) ≠ 0
      omega
  · cases h
    obtain ⟨a, vs, rfl, hx, rvs⟩ := rx.tup
    exact .inr (.inl ⟨vs, hx, by rw [rvs.isEmpty]⟩)
  · cases h
    obtain ⟨a, vs, rfl, hx, rvs⟩ := rx.lst
    exact .inl ⟨vs, SqL.of hx, by rw [rvs.isEmpty]⟩
end
end TQ

/-! DS6: each form of expression: its reading by those of its parts. -/
namespace TQ
open PySem PySem.Spec PyProof.Rows L2

section
variable {X : Cx} {Z : Zt} {c ca cb cc : Cls} {ra rb rc : Env → R D} {a b e : Expr} {pos : Pos}

theorem noX_add (d e : D) : NoX (addD d e) := by
  cases d <;> cases e <;> simp only [addD] <;> first | exact .bad | exact .ok | exact .ite .ok .bad
theorem noX_sub (d e : D) : NoX (subD d e) := by
  cases d <;> cases e <;> simp only [subD] <;> first | exact .bad | exact .ok | exact .ite .ok .bad
theorem noX_mul (d e : D) : NoX (mulD d e) := by
  cases d <;> cases e <;> simp only [mulD] <;> first | exact .bad | exact .ok | exact .ite .ok .bad
theorem noX_mod (d e : D) : NoX (modD d e) := by
  cases d <;> cases e <;> simp only [modD] <;> first | exact .bad | exact .ok | exact .ite .ok .bad
theorem noX_fdiv (d e : D) : NoX (fdivD d e) := by
  cases d <;> cases e <;> simp only [fdivD] <;> first | exact .bad | exact .ok | exact .ite .ok .bad
theorem noX_pow (d e : D) : NoX (powD d e) := by
  cases d <;> cases e <;> simp only [powD] <;> first | exact .bad | exact .ok | exact .ite .ok .bad
theorem noX_lt (d e : D) : NoX (ltD d e) := by
  cases d <;> cases e <;> simp only [ltD] <;> first | exact .bad | exact .ok | exact .ite .ok .bad
theorem noX_le (d e : D) : NoX (leD d e) := by
  cases d <;> cases e <;> simp only [leD] <;> first | exact .bad | exact .ok | exact .ite .ok .bad
theorem noX_eq (d e : D) : NoX (eqD d e) := .ite .ok .bad
theorem noX_is (d e : D) : NoX (isD d e) := by
  cases e <;> simp only [isD] <;> first | exact .bad | exact .ok
theorem noX_in (d e : D) : NoX (inD d e) := by
  cases e <;> simp only [inD] <;> first | exact .bad | exact .ite .ok .bad | (split <;> first | exact .ok | exact .bad)
theorem noX_bl {r : R Bool} (h : NoX r) : NoX (blR r) := h.bind fun _ => .ok
theorem noX_nbl {r : R Bool} (h : NoX r) : NoX (nblR r) := h.bind fun _ => .ok
theorem noX_not {r : R D} (h : NoX r) : NoX (notR r) := h.bind fun d => by cases d <;> first | exact .ok | exact .bad
theorem noX_ix (d e : D) : NoX (ixD d e) := by
  cases d <;> simp only [ixD] <;> first
    | exact .bad
    | exact .ite (.ofO fun _ => .ok) .bad
    | (cases e <;> simp only <;> first | exact .bad | exact .ofO fun _ => .ok)
theorem noX_cutR (d : D) (l h : Option Int) : NoX (cutR d l h) := by
  cases d <;> simp only [cutR] <;> first | exact .ok | exact .bad
theorem noX_cutf (d e : D) : NoX (cutFrom d e) := by
  cases e <;> simp only [cutFrom] <;> first | exact noX_cutR _ _ _ | exact .bad
theorem noX_cutt (d e : D) : NoX (cutTo d e) := by
  cases e <;> simp only [cutTo] <;> first | exact noX_cutR _ _ _ | exact .bad
theorem noX_slice (d e g : D) : NoX (cutFT d e g) := by
  cases e <;> cases g <;> simp only [cutFT] <;> first | exact noX_cutR _ _ _ | exact .bad
theorem noX_truth (d : D) : NoX (truthD d) := by
  cases d <;> simp only [truthD] <;> first | exact .ok | exact .bad

/-! ### operators -/
theorem pe_bin {op : Operator} {f : D → D → R D} (hz : ZMono Z) (n : ∀ d e, NoX (f d e)) (ok : BinOk X op f) (ha : PE X a (tE X.K Z ca ra)) (hb : PE X b (tE X.K Z cb rb)) :
    PE X (.BinOp a op b pos) (tE X.K Z (ca.join cb) fun env => (ra env).bind fun x => (rb env).bind fun y => f x y) := by
  obtain ⟨r2, ho, h⟩ := ok
  exact pe_mono (pe_op ho ha hb) fun σ H Q q => tE_op2 hz n (h ca cb) q
theorem pe_cmpD {op : CmpOp} {f : D → D → R D} (hz : ZMono Z) (n : ∀ d e, NoX (f d e)) (ok : CmpOk X op f) (ha : PE X a (tE X.K Z ca ra)) (hb : PE X b (tE X.K Z cb rb)) (hm : behindInMarks op b = false) :
    PE X (.Compare a [op] [b] pos) (tE X.K Z .clean fun env => (ra env).bind fun x => (rb env).bind fun y => f x y) := by
  obtain ⟨r2, ho, h⟩ := ok
  exact pe_mono (pe_cmpR ho ha hb hm) fun σ H Q q => tE_op2 hz n (h ca cb) q
/-- a test whose value is a truth -/
theorem Post.truth {r : R D} {P : Bool → Prop} {Zc : List Nat → List D → Prop} (h : Post (r.bind truthD) P Zc) : Post r (fun d => ∃ k, truthD d = .ok k ∧ P k) Zc :=
  (Post.bind h).imp (fun d _ hd => by
    cases e : truthD d with
    | ok k => rw [e] at hd; exact ⟨k, rfl, hd⟩
    | exc c as => exact absurd e (noX_truth d c as)
    | bad => rw [e] at hd; exact hd.elim) fun _ _ z => z
theorem tB_tE {K : PySem.W.Frag} {σ : L2.St} {H : Hp} {Q : Bool → Hp → Prop} {Q' : V → Hp → Prop} (h : tB' K Z (fun env => (ra env).bind truthD) σ H Q)
    (hq : ∀ O H' d v k, RepC K ca O H' v d → truthD d = .ok k → (∀ H2, Ext H' H2 → Q k H2) → Q' v H') : tE K Z ca ra σ H Q' := by
  obtain ⟨O, env, e, h⟩ := h
  refine ⟨O, env, e, (Post.truth h).imp (fun d _ ⟨k, hk, q⟩ v H' x r => ?_) fun _ _ z => z⟩
  exact hq O H' d v k r hk fun H2 x2 => q H2 (x.trans x2)
theorem pt_cmpD {op : CmpOp} {f : D → D → R D} (hz : ZMono Z) (n : ∀ d e, NoX (f d e)) (bl : ∀ d e r, f d e = .ok r → ∃ k, r = .bl k) (ok : CmpOk X op f) (ha : PE X a (tE X.K Z ca ra)) (hb : PE X b (tE X.K Z cb rb)) (hm : behindInMarks op b = false) :
    PT X (.Compare a [op] [b] pos) (tB' X.K Z fun env => ((ra env).bind fun x => (rb env).bind fun y => f x y).bind truthD) := by
  obtain ⟨r2, ho, h⟩ := ok
  refine pt_mono (pt_cmpR ho ha hb hm) fun σ H Q q => ?_
  refine tE_op2 (Z := Z) (f := f) hz n (h ca cb) ?_
  obtain ⟨O, env, e, q⟩ := q
  refine ⟨O, env, e, (Post.truth q).imp (fun d ed ⟨k, hk, q⟩ v H' x r => ?_) fun _ _ z => z⟩
  obtain ⟨x1, _, ed⟩ := R.bind_eq_ok ed
  obtain ⟨y1, _, ed⟩ := R.bind_eq_ok ed
  obtain ⟨k', rfl⟩ := bl _ _ _ ed
  cases hk
  exact ⟨_, r.bl, q H' x⟩
/-- any other expression as a test -/
theorem pt_any (ha : PE X a (tE X.K Z ca ra)) (he : ∀ whole, isTrue a X.env whole = (do let v ← whole; standAt a.pos; holding [v] (truthy v))) : PT X a (tB' X.K Z fun env => (ra env).bind truthD) :=
  pt_mono (pt_truth ha he) fun σ H Q q => tB_tE q fun O H' d v k r hk q => ⟨k, tru_of r hk, q H' Ext.refl⟩
theorem pe_notD (ha : PE X a (tE X.K Z ca ra)) : PE X (.UnaryOp .Not a pos) (tE X.K Z .clean fun env => (ra env).bind fun x => (truthD x).bind fun t => .ok (.bl !t)) := by
  refine pe_mono (pe_notT ha) fun σ H Q q => ?_
  obtain ⟨O, env, e, h⟩ := q
  have h : Post (((ra env).bind truthD).bind fun t => R.ok (D.bl !t)) (fun d => ∀ v H', Ext H H' → RepC X.K .clean O H' v d → Q v H') (Z σ H) := by
    rw [R.bind_assoc]; exact h
  refine ⟨O, env, e, (Post.truth (Post.bind h)).imp (fun d _ ⟨k, hk, q⟩ v H' x r => ⟨k, tru_of r hk, ?_⟩) fun _ _ z => z⟩
  exact q _ H' x .mkB
theorem pt_notD (ha : PT X a (tB' X.K Z fun env => (ra env).bind truthD)) : PT X (.UnaryOp .Not a pos) (tB' X.K Z fun env => ((ra env).bind fun x => (truthD x).bind fun t => .ok (.bl !t)).bind truthD) := by
  refine pt_mono (pt_not ha) fun σ H Q q => ?_
  obtain ⟨O, env, e, h⟩ := q
  refine ⟨O, env, e, ?_⟩
  have h : Post (((ra env).bind truthD).bind fun t => R.ok !t) (fun b => ∀ H', Ext H H' → Q b H') (Z σ H) := by
    have e : (((ra env).bind fun x => (truthD x).bind fun t => R.ok (D.bl !t)).bind truthD) = ((ra env).bind truthD).bind fun t => R.ok !t := by
      rw [R.bind_assoc, R.bind_assoc]; congr 1; funext x; rw [R.bind_assoc]; rfl
    rw [← e]; exact h
  exact Post.bind h
/-- and, or of values -/
theorem pe_andD {rest : List Expr} (hz : ZMono Z) (ha : PE X a (tE X.K Z ca ra)) (hb : PE X (.BoolOp .And (b :: rest) pos) (tE X.K Z cb rb)) :
    PE X (.BoolOp .And (a :: b :: rest) pos) (tE X.K Z (ca.max cb) fun env => (ra env).bind fun x => (truthD x).bind fun t => if t then rb env else .ok x) := by
  refine pe_mono (pe_andT ha hb) fun σ H Q q => ?_
  obtain ⟨O, env, e, h⟩ := q
  refine tE_then (f := fun env x => (truthD x).bind fun t => if t then rb env else .ok x) hz e h fun d v H1 ed x1 e1 r1 h1 => ?_
  cases hk : truthD d with
  | exc c as => exact absurd hk (noX_truth d c as)
  | bad => rw [hk] at h1; exact h1.elim
  | ok k =>
    rw [hk] at h1
    refine ⟨k, tru_of r1 hk, ?_⟩
    cases k with
    | true => exact ⟨O, env, e1, Post.imp h1 (fun d _ q v H' x r => q v H' (x1.trans x) r.max') fun _ _ z => z⟩
    | false => exact (show ∀ v H', Ext H H' → RepC X.K (ca.max cb) O H' v d → Q v H' from h1) v H1 x1 r1.max
theorem pe_orD {rest : List Expr} (hz : ZMono Z) (ha : PE X a (tE X.K Z ca ra)) (hb : PE X (.BoolOp .Or (b :: rest) pos) (tE X.K Z cb rb)) :
    PE X (.BoolOp .Or (a :: b :: rest) pos) (tE X.K Z (ca.max cb) fun env => (ra env).bind fun x => (truthD x).bind fun t => if t then .ok x else rb env) := by
  refine pe_mono (pe_orT ha hb) fun σ H Q q => ?_
  obtain ⟨O, env, e, h⟩ := q
  refine tE_then (f := fun env x => (truthD x).bind fun t => if t then .ok x else rb env) hz e h fun d v H1 ed x1 e1 r1 h1 => ?_
  cases hk : truthD d with
  | exc c as => exact absurd hk (noX_truth d c as)
  | bad => rw [hk] at h1; exact h1.elim
  | ok k =>
    rw [hk] at h1
    refine ⟨k, tru_of r1 hk, ?_⟩
    cases k with
    | false => exact ⟨O, env, e1, Post.imp h1 (fun d _ q v H' x r => q v H' (x1.trans x) r.max') fun _ _ z => z⟩
    | true => exact (show ∀ v H', Ext H H' → RepC X.K (ca.max cb) O H' v d → Q v H' from h1) v H1 x1 r1.max
theorem pw_andD {rest : List Expr} (hz : ZMono Z) (ha : PT X a (tB' X.K Z fun env => (ra env).bind truthD)) (hb : PW X (.BoolOp .And (b :: rest) pos) (tB' X.K Z fun env => (rb env).bind truthD)) :
    PW X (.BoolOp .And (a :: b :: rest) pos) (tB' X.K Z fun env => ((ra env).bind fun x => (truthD x).bind fun t => if t then rb env else .ok x).bind truthD) := by
  refine pw_mono (pw_and ha hb) fun σ H Q q => ?_
  obtain ⟨O, env, e, h⟩ := q
  refine ⟨O, env, e, ?_⟩
  have h : Post ((ra env).bind fun x => (truthD x).bind fun t => (if t then rb env else R.ok x).bind truthD) (fun b => ∀ H', Ext H H' → Q b H') (Z σ H) := by
    have e : (((ra env).bind fun x => (truthD x).bind fun t => if t then rb env else R.ok x).bind truthD) = (ra env).bind fun x => (truthD x).bind fun t => (if t then rb env else R.ok x).bind truthD := by
      rw [R.bind_assoc]; congr 1; funext x; rw [R.bind_assoc]
    rw [← e]; exact h
  have key : Post ((ra env).bind truthD) (fun k => if k = true then Post ((rb env).bind truthD) (fun b => ∀ H', Ext H H' → Q b H') (Z σ H) else ∀ H', Ext H H' → Q false H') (Z σ H) := by
    cases hr : ra env with
    | bad => rw [hr] at h; exact h
    | exc c as => rw [hr] at h; exact h
    | ok x =>
      rw [hr] at h
      cases hk : truthD x with
      | exc c as => exact absurd hk (noX_truth x c as)
      | bad => rw [R.bind_ok, hk] at h; exact h.elim
      | ok k =>
        rw [R.bind_ok, hk] at h
        rw [R.bind_ok, hk]
        cases k with
        | true => exact h
        | false =>
          have h : Post (truthD x) (fun b => ∀ H', Ext H H' → Q b H') (Z σ H) := h
          rw [hk] at h; exact h
  refine key.imp (fun k _ hk H1 x1 => ?_) fun _ _ z => z
  cases k with
  | true => exact ⟨O, env, e.mono x1, Post.imp hk (fun b _ q H' x => q H' (x1.trans x)) fun c as z => hz _ _ _ _ _ x1 z⟩
  | false => exact hk H1 x1
theorem pw_orD {rest : List Expr} (hz : ZMono Z) (ha : PT X a (tB' X.K Z fun env => (ra env).bind truthD)) (hb : PW X (.BoolOp .Or (b :: rest) pos) (tB' X.K Z fun env => (rb env).bind truthD)) :
    PW X (.BoolOp .Or (a :: b :: rest) pos) (tB' X.K Z fun env => ((ra env).bind fun x => (truthD x).bind fun t => if t then .ok x else rb env).bind truthD) := by
  refine pw_mono (pw_or ha hb) fun σ H Q q => ?_
  obtain ⟨O, env, e, h⟩ := q
  refine ⟨O, env, e, ?_⟩
  have h : Post ((ra env).bind fun x => (truthD x).bind fun t => (if t then R.ok x else rb env).bind truthD) (fun b => ∀ H', Ext H H' → Q b H') (Z σ H) := by
    have e : (((ra env).bind fun x => (truthD x).bind fun t => if t then R.ok x else rb env).bind truthD) = (ra env).bind fun x => (truthD x).bind fun t => (if t then R.ok x else rb env).bind truthD := by
      rw [R.bind_assoc]; congr 1; funext x; rw [R.bind_assoc]
    rw [← e]; exact h
  have key : Post ((ra env).bind truthD) (fun k => if k = true then ∀ H', Ext H H' → Q true H' else Post ((rb env).bind truthD) (fun b => ∀ H', Ext H H' → Q b H') (Z σ H)) (Z σ H) := by
    cases hr : ra env with
    | bad => rw [hr] at h; exact h
    | exc c as => rw [hr] at h; exact h
    | ok x =>
      rw [hr] at h
      cases hk : truthD x with
      | exc c as => exact absurd hk (noX_truth x c as)
      | bad => rw [R.bind_ok, hk] at h; exact h.elim
      | ok k =>
        rw [R.bind_ok, hk] at h
        rw [R.bind_ok, hk]
        cases k with
        | false => exact h
        | true =>
          have h : Post (truthD x) (fun b => ∀ H', Ext H H' → Q b H') (Z σ H) := h
          rw [hk] at h; exact h
  refine key.imp (fun k _ hk H1 x1 => ?_) fun _ _ z => z
  cases k with
  | false => exact ⟨O, env, e.mono x1, Post.imp hk (fun b _ q H' x => q H' (x1.trans x)) fun c as z => hz _ _ _ _ _ x1 z⟩
  | true => exact hk H1 x1
/-- a if c else b -/
theorem pe_iteD {t : Expr} (hz : ZMono Z) (hc : PT X t (tB' X.K Z fun env => (rc env).bind truthD)) (ha : PE X a (tE X.K Z ca ra)) (hb : PE X b (tE X.K Z cb rb)) :
    PE X (.IfExp t a b pos) (tE X.K Z (ca.max cb) fun env => (rc env).bind fun x => (truthD x).bind fun t => if t then ra env else rb env) := by
  refine pe_mono (pe_ifExp hc ha hb) fun σ H Q q => ?_
  obtain ⟨O, env, e, h⟩ := q
  have h : Post (((rc env).bind truthD).bind fun t => if t then ra env else rb env) (fun d => ∀ v H', Ext H H' → RepC X.K (ca.max cb) O H' v d → Q v H') (Z σ H) := by
    rw [R.bind_assoc]; exact h
  refine ⟨O, env, e, (Post.bind h).imp (fun k _ hk H1 x1 => ?_) fun _ _ z => z⟩
  cases k with
  | true => exact ⟨O, env, e.mono x1, Post.imp hk (fun d _ q v H' x r => q v H' (x1.trans x) r.max) fun c as z => hz _ _ _ _ _ x1 z⟩
  | false => exact ⟨O, env, e.mono x1, Post.imp hk (fun d _ q v H' x r => q v H' (x1.trans x) r.max') fun c as z => hz _ _ _ _ _ x1 z⟩
end
end TQ

/-! DS7: chains, displays, subscripts, calls. -/
namespace TQ
open PySem PySem.Spec PyProof.Rows L2

section
variable {X : Cx} {Z : Zt} {c ca cb cc : Cls} {ra rb rc : Env → R D} {a b e : Expr} {es : List Expr} {pos : Pos}

/-! ### a chain of two comparisons -/
theorem chain_red {op op' : CmpOp} {f f' : D → D → R D} {r2 r2' : R2} (hz : ZMono Z) (n : ∀ d e, NoX (f d e)) (n' : ∀ d e, NoX (f' d e)) (bl : ∀ d e r, f d e = .ok r → ∃ k, r = .bl k)
    (h : ∀ ca cb, Op2Ok X.K ca cb .clean f r2) (h' : ∀ ca cb, Op2Ok X.K ca cb .clean f' r2') {σ : L2.St} {H : Hp} {Q : VK}
    (q : tE X.K Z .clean (fun env => (ra env).bind fun x => (rb env).bind fun y => (f x y).bind fun r => (truthD r).bind fun t => if t then (rc env).bind fun z => f' y z else .ok r) σ H Q) :
    tChain r2 r2' (tE X.K Z ca ra) (tE X.K Z cb rb) (tE X.K Z cc rc) σ H Q := by
  obtain ⟨O, env, e, hp⟩ := q
  refine tE_then (f := fun env x => (rb env).bind fun y => (f x y).bind fun r => (truthD r).bind fun t => if t then (rc env).bind fun z => f' y z else .ok r) hz e hp fun d v H1 ed x1 e1 r1 h1 => ?_
  refine tE_then (f := fun env y => (f d y).bind fun r => (truthD r).bind fun t => if t then (rc env).bind fun z => f' y z else .ok r) hz e1 h1 fun d2 v2 H2 ed2 x2 e2 r2' h2 => ?_
  cases hf : f d d2 with
  | exc c as => exact absurd hf (n d d2 c as)
  | bad => rw [hf] at h2; exact h2.elim
  | ok r =>
    obtain ⟨k, rfl⟩ := bl _ _ _ hf
    rw [hf] at h2
    refine h ca cb O H2 v v2 d d2 (.bl k) _ e2.ok (r1.mono x2) r2' hf fun u H3 x3 r3 => ?_
    refine ⟨k, r3.bl, ?_⟩
    have h2 : Post (if k = true then (rc env).bind fun z => f' d2 z else R.ok (D.bl k)) (fun d => ∀ v H', Ext H H' → RepC X.K .clean O H' v d → Q v H') (Z σ H2) := h2
    cases k with
    | true =>
      refine tE_then (f := fun env z => f' d2 z) hz (e2.mono x3) (h2.imp (fun _ _ h => h) fun c as z => hz _ _ _ _ _ x3 z) fun d4 v4 H4 ed4 x4 e4 r4 h4 => ?_
      obtain ⟨d', ed', q⟩ := h4.of_noX (n' d2 d4)
      exact h' cb cc O H4 v2 v4 d2 d4 d' Q e4.ok ((r2'.mono x3).mono x4) r4 ed' fun u H5 x5 r5 => q u H5 ((((x1.trans x2).trans x3).trans x4).trans x5) r5
    | false => exact (show ∀ v H', Ext H H' → RepC X.K .clean O H' v (.bl false) → Q v H' from h2) _ _ ((x1.trans x2).trans x3) .mkB
theorem pe_chainD {b2 : Expr} {op op' : CmpOp} {f f' : D → D → R D} (hz : ZMono Z) (n : ∀ d e, NoX (f d e)) (n' : ∀ d e, NoX (f' d e)) (bl : ∀ d e r, f d e = .ok r → ∃ k, r = .bl k)
    (ok : CmpOk X op f) (ok' : CmpOk X op' f') (ha : PE X a (tE X.K Z ca ra)) (hb : PE X b (tE X.K Z cb rb)) (hc : PE X b2 (tE X.K Z cc rc)) (hm : lastMarks [op, op'] [b, b2] = false) :
    PE X (.Compare a [op, op'] [b, b2] pos) (tE X.K Z .clean fun env => (ra env).bind fun x => (rb env).bind fun y => (f x y).bind fun r => (truthD r).bind fun t => if t then (rc env).bind fun z => f' y z else .ok r) := by
  obtain ⟨r2, ho, h⟩ := ok
  obtain ⟨r2', ho', h'⟩ := ok'
  exact pe_mono (pe_chain ho ho' ha hb hc hm) fun σ H Q q => chain_red (op := op) (op' := op') hz n n' bl h h' q
theorem pt_chainD {b2 : Expr} {op op' : CmpOp} {f f' : D → D → R D} (hz : ZMono Z) (n : ∀ d e, NoX (f d e)) (n' : ∀ d e, NoX (f' d e)) (bl : ∀ d e r, f d e = .ok r → ∃ k, r = .bl k) (bl' : ∀ d e r, f' d e = .ok r → ∃ k, r = .bl k)
    (ok : CmpOk X op f) (ok' : CmpOk X op' f') (ha : PE X a (tE X.K Z ca ra)) (hb : PE X b (tE X.K Z cb rb)) (hc : PE X b2 (tE X.K Z cc rc)) (hm : lastMarks [op, op'] [b, b2] = false) :
    PT X (.Compare a [op, op'] [b, b2] pos) (tB' X.K Z fun env => ((ra env).bind fun x => (rb env).bind fun y => (f x y).bind fun r => (truthD r).bind fun t => if t then (rc env).bind fun z => f' y z else .ok r).bind truthD) := by
  obtain ⟨r2, ho, h⟩ := ok
  obtain ⟨r2', ho', h'⟩ := ok'
  refine pt_mono (pt_chain ho ho' ha hb hc hm) fun σ H Q q => ?_
  refine chain_red (op := op) (op' := op') hz n n' bl h h' ?_
  obtain ⟨O, env, e, q⟩ := q
  refine ⟨O, env, e, (Post.truth q).imp (fun d ed ⟨k, hk, q⟩ v H' x r => ?_) fun _ _ z => z⟩
  obtain ⟨x1, _, ed⟩ := R.bind_eq_ok ed
  obtain ⟨y1, _, ed⟩ := R.bind_eq_ok ed
  obtain ⟨r1, e1, ed⟩ := R.bind_eq_ok ed
  obtain ⟨t, _, ed⟩ := R.bind_eq_ok ed
  have bd : ∃ k, d = .bl k := by
    cases t with
    | true =>
      obtain ⟨z1, _, ed⟩ := R.bind_eq_ok ed
      exact bl' _ _ _ ed
    | false => cases ed; exact bl _ _ _ e1
  obtain ⟨k', rfl⟩ := bd
  cases hk
  exact ⟨_, r.bl, q H' x⟩

/-! ### displays -/
theorem clEs_ne : ∀ es : Es, clEs es ≠ .top
  | .nil => fun h => nomatch h
  | .cons e es => by
    show (clE e).arg (clEs es) ≠ .top
    cases clE e <;> cases clEs es <;> (intro h; cases h)
theorem pe_tupD {rs : Env → R (List D)} {k : Nat} (hc : c ≠ .top) (hl : ∀ env ds, rs env = .ok ds → ds.length ≤ 1000) (h : PA X es (tAs X.K Z c rs)) :
    PE X (.Tuple es k pos) (tE X.K Z c fun env => (rs env).bind fun ds => .ok (.tup ds)) := by
  refine pe_mono (pe_tup h) fun σ H Q q => ?_
  obtain ⟨O, env, e, q⟩ := q
  refine ⟨O, env, e, (Post.bind q).imp (fun ds ed q vs H1 x r => ?_) fun _ _ z => z⟩
  have hl := hl env ds ed
  have hr := r.length
  have hs : LN = 16777216 := rfl
  refine ⟨by rw [← LN_eq]; omega, fun p hp => ?_⟩
  exact (show ∀ v H', Ext H H' → RepC X.K c O H' v (.tup ds) → Q v H' from q) _ _ (x.trans (Ext.new hp)) (RepC.newT' hc hp (e.ok.ext x) r)
theorem pe_lstD {rs : Env → R (List D)} (hc : c ≠ .top) (hl : ∀ env ds, rs env = .ok ds → ds.length ≤ 1000) (h : PA X es (tAs X.K Z c rs)) :
    PE X (.List es pos) (tE X.K Z c fun env => (rs env).bind fun ds => .ok (.lst ds)) := by
  refine pe_mono (pe_lst h) fun σ H Q q => ?_
  obtain ⟨O, env, e, q⟩ := q
  refine ⟨O, env, e, (Post.bind q).imp (fun ds ed q vs H1 x r => ?_) fun _ _ z => z⟩
  have hl := hl env ds ed
  have hr := r.length
  have hs : LN = 16777216 := rfl
  refine ⟨by rw [← LN_eq]; omega, fun p hp => ?_⟩
  exact (show ∀ v H', Ext H H' → RepC X.K c O H' v (.lst ds) → Q v H' from q) _ _ (x.trans (Ext.new hp)) (RepC.newL' hc hp (e.ok.ext x) r)
theorem pa_nilD : PA X [] (tAs X.K Z .clean fun _ => .ok []) := pa_mono pa_nil fun σ H Q q => tAs_nil trivial q
theorem pa_consD {rs : Env → R (List D)} (hz : ZMono Z) (hc : c ≠ .top) (he : PE X e (tE X.K Z ca ra)) (hs : PA X es (tAs X.K Z c rs)) (hst : starEach (e :: es) X.env = (false, eval e X.env) :: starEach es X.env) :
    PA X (e :: es) (tAs X.K Z (ca.arg c) fun env => (ra env).bind fun d => (rs env).bind fun ds => .ok (d :: ds)) :=
  pa_mono (pa_cons he hs hst) fun σ H Q q => tAs_cons hz hc q

/-! ### subscripts -/
theorem pe_ixD {f : D → D → R D} (hz : ZMono Z) (n : ∀ d e, NoX (f d e)) (ok : IxOk X f) (ha : PE X a (tE X.K Z ca ra)) (hb : PE X b (tE X.K Z cb rb)) (hs : PlainIx b) :
    PE X (.Subscript a b pos) (tE X.K Z ca.der fun env => (ra env).bind fun x => (rb env).bind fun y => f x y) := by
  obtain ⟨r2, ho, h⟩ := ok
  exact pe_mono (pe_ix ho ha hb hs) fun σ H Q q => tE_op2 hz n (h ca cb) q
theorem pe_cutF {p2 : Pos} (hz : ZMono Z) (ha : PE X a (tE X.K Z ca ra)) (hb : PE X b (tE X.K Z cb rb)) :
    PE X (.Subscript a (.Slice (some b) none none p2) pos) (tE X.K Z ca.der fun env => (ra env).bind fun x => (rb env).bind fun y => cutFrom x y) := by
  refine pe_mono (pe_slice sl_all ha (po_some hb) po_none) fun σ H Q q => ?_
  refine tE_op2 (r2 := fun x y H Q => ∃ i, y = .int i ∧ rCut X.K x (some i) none H Q) hz noX_cutf (fun O H x y d e d' Q ho rx ry hf hq => ?_) q
  cases e <;> simp only [cutFrom] at hf <;> try contradiction
  exact ⟨_, ry.int, cut_ok ho rx hf hq⟩
theorem pe_cutT {p2 : Pos} (hz : ZMono Z) (ha : PE X a (tE X.K Z ca ra)) (hb : PE X b (tE X.K Z cb rb)) :
    PE X (.Subscript a (.Slice none (some b) none p2) pos) (tE X.K Z ca.der fun env => (ra env).bind fun x => (rb env).bind fun y => cutTo x y) := by
  refine pe_mono (pe_slice sl_all ha po_none (po_some hb)) fun σ H Q q => ?_
  refine tE_op2 (r2 := fun x y H Q => ∃ i, y = .int i ∧ rCut X.K x none (some i) H Q) hz noX_cutt (fun O H x y d e d' Q ho rx ry hf hq => ?_) q
  cases e <;> simp only [cutTo] at hf <;> try contradiction
  exact ⟨_, ry.int, cut_ok ho rx hf hq⟩
theorem pe_cutFT {b2 : Expr} {p2 : Pos} (hz : ZMono Z) (ha : PE X a (tE X.K Z ca ra)) (hb : PE X b (tE X.K Z cb rb)) (hc : PE X b2 (tE X.K Z cc rc)) :
    PE X (.Subscript a (.Slice (some b) (some b2) none p2) pos) (tE X.K Z ca.der fun env => (ra env).bind fun x => (rb env).bind fun y => (pre3 .slice y).bind fun _ => (rc env).bind fun z => cutFT x y z) := by
  refine pe_mono (pe_slice sl_all ha (po_some hb) (po_some hc)) fun σ H Q q => ?_
  obtain ⟨O, env, e, hp⟩ := q
  refine tE_then (f := fun env x => (rb env).bind fun y => (pre3 .slice y).bind fun _ => (rc env).bind fun z => cutFT x y z) hz e hp fun d v H1 ed x1 e1 r1 h1 => ?_
  refine tE_then (f := fun env y => (pre3 .slice y).bind fun _ => (rc env).bind fun z => cutFT d y z) hz e1 h1 fun d2 v2 H2 ed2 x2 e2 r2 h2 => ?_
  cases d2 with
  | int i =>
    refine ⟨i, r2.int, ?_⟩
    refine tE_then (f := fun _ z => cutFT d (.int i) z) hz e2 h2 fun d3 v3 H3 ed3 x3 e3 r3 h3 => ?_
    cases d3 with
    | int j =>
      refine ⟨j, r3.int, ?_⟩
      obtain ⟨d', ed', q⟩ := h3.of_noX (noX_slice _ _ _)
      exact cut_ok e3.ok ((r1.mono x2).mono x3) ed' fun u H4 x4 r4 => q u H4 (((x1.trans x2).trans x3).trans x4) r4
    | _ => exact h3.elim
  | _ => exact h2.elim

/-! ### builtins -/
theorem pe_b1 {x : Str} {p : Pos} {id : String} {g : D → R D} {cf : Cls → Cls} (hz : ZMono Z) (n : ∀ d, NoX (g d)) (ok : CallOk1 X (.builtin id) g cf) (hg : Gl X x) (hm : X.mg x = none) (hv : bootBuiltins x = some (.builtin id)) (ha : PE X a (tE X.K Z ca ra))
    (hn : x ≠ "__name__") (hdb : (x == ("__debug__" : Str)) = false) (hst : starEach [a] X.env = (false, eval a X.env) :: starEach [] X.env) :
    PE X (.Call (.Name x p) [a] [] pos) (tE X.K Z (cf ca) fun env => (ra env).bind g) := by
  obtain ⟨r, ho, h⟩ := ok
  exact pe_mono (pe_callB ho hg hm hv (pa_cons ha pa_nil hst) hn hdb hst rfl) fun σ H Q q => tE_op1 hz n (h ca) q
theorem pe_t1 {x : Str} {p : Pos} {id : String} {g : D → R D} {cf : Cls → Cls} (hz : ZMono Z) (n : ∀ d, NoX (g d)) (ok : CallOk1 X (.type id) g cf) (hg : Gl X x) (hm : X.mg x = none) (hv : bootBuiltins x = some (.type id)) (ha : PE X a (tE X.K Z ca ra))
    (hn : x ≠ "__name__") (hdb : (x == ("__debug__" : Str)) = false) (hst : starEach [a] X.env = (false, eval a X.env) :: starEach [] X.env) :
    PE X (.Call (.Name x p) [a] [] pos) (tE X.K Z (cf ca) fun env => (ra env).bind g) := by
  obtain ⟨r, ho, h⟩ := ok
  exact pe_mono (pe_callTy ho hg hm hv (pa_cons ha pa_nil hst) hn hdb hst rfl) fun σ H Q q => tE_op1 hz n (h ca) q
theorem pe_b2 {x : Str} {p : Pos} {id : String} {g : D → D → R D} (hz : ZMono Z) (n : ∀ d e, NoX (g d e)) (ok : CallOk2 X (.builtin id) g) (hg : Gl X x) (hm : X.mg x = none) (hv : bootBuiltins x = some (.builtin id)) (ha : PE X a (tE X.K Z ca ra)) (hb : PE X b (tE X.K Z cb rb))
    (hn : x ≠ "__name__") (hdb : (x == ("__debug__" : Str)) = false) (hst : starEach [a, b] X.env = (false, eval a X.env) :: starEach [b] X.env) (hst2 : starEach [b] X.env = (false, eval b X.env) :: starEach [] X.env) :
    PE X (.Call (.Name x p) [a, b] [] pos) (tE X.K Z .clean fun env => (ra env).bind fun x => (rb env).bind fun y => g x y) := by
  obtain ⟨r, ho, h⟩ := ok
  exact pe_mono (pe_callB ho hg hm hv (pa_cons ha (pa_cons hb pa_nil hst2) hst) hn hdb hst (by rw [hst2]; rfl)) fun σ H Q q => tE_op2 hz n (h ca cb) q
theorem pe_isi {x y : Str} {p p' : Pos} {t : Ty} (hz : ZMono Z) (n : ∀ d, NoX (isiD t d)) (hg : Gl X x) (hm : X.mg x = none) (hv : bootBuiltins x = some (.builtin "isinstance")) (hg' : Gl X y) (hm' : X.mg y = none) (hv' : bootBuiltins y = some (.type (tyName t)))
    (hn' : y ≠ "__name__") (hdb' : (y == ("__debug__" : Str)) = false) (ha : PE X a (tE X.K Z ca ra))
    (hn : x ≠ "__name__") (hdb : (x == ("__debug__" : Str)) = false) (hst : starEach [a, .Name y p'] X.env = (false, eval a X.env) :: starEach [.Name y p'] X.env) :
    PE X (.Call (.Name x p) [a, .Name y p'] [] pos) (tE X.K Z .clean fun env => (ra env).bind (isiD t)) := by
  obtain ⟨r, ho, h⟩ := f_isi (X := X) t
  have pt : PE X (.Name y p') (tC (.ty (tyName t))) := pe_bltn hg' hm' hv' rfl hn' hdb'
  exact pe_mono (pe_callB ho hg hm hv (pa_cons ha (pa_cons pt pa_nil rfl) hst) hn hdb hst rfl) fun σ H Q q => tE_op1 hz n (h ca) q
end
end TQ

/-! DS8: walks over lists, tuples, texts, ranges; list comprehensions. -/
namespace TQ
open PySem PySem.Spec PyProof.Rows L2

/-- a walk J yields the representations of ds: Gs bears the source, G the items -/
def Yields (K : PySem.W.Frag) (J : It) (ds : List D) (Gs G : Hp) : Prop := ds.length ≤ LN ∧ ∀ (h : Addr → Prop) (H : Hp), (∀ a, h a → H a ≠ none) → Ext Gs H → Ext G (hide h H) → ∀ i,
  (∀ d, ds[i]? = some d → J.go i H ∧ ∀ x H', J.yld i H x H' → Ext H H' ∧ Rep K (hide h H') x d) ∧ (ds.length ≤ i → J.stop i H)
noncomputable def srcH (c : Cls) (O : Hid) (H : Hp) : Hp := match c with
  | .clean => hide O.o H
  | _ => H
theorem srcH_ext {c : Cls} {O : Hid} {H : Hp} : Ext (srcH c O H) H := by
  cases c <;> first | exact hide_ext | exact Ext.refl
/-- what a walk's source tells -/
def tI (K : PySem.W.Frag) (Z : Zt) (c : Cls) (r : Env → R (List D)) : TI := fun σ H R => ∃ O env, EnvR K O H σ env ∧ Post (r env) (fun ds => ∀ J H1, Ext H H1 → Yields K J ds (srcH c O H1) (hide O.o H1) → R J H1) (Z σ H)
section
variable {X : Cx} {Z : Zt} {c ca cb cc : Cls} {ra rb rc : Env → R D} {a b e tg : Expr} {es : List Expr} {pos : Pos}
theorem pi_mono {wi wi' : TI} (h : PI X tg e wi) (hm : ∀ σ H R, wi' σ H R → wi σ H R) : PI X tg e wi' := ⟨fun pins s σ H R I q => h.run pins s σ H R I (hm _ _ _ q)⟩
theorem pi_or {wi wi' : TI} (h : PI X tg e wi) (h' : PI X tg e wi') : PI X tg e (fun σ H R => wi σ H R ∨ wi' σ H R) := ⟨fun pins s σ H R I q => q.elim (h.run pins s σ H R I) (h'.run pins s σ H R I)⟩

/-- no list is too long -/
structure SzOk (K : PySem.W.Frag) (H : Hp) : Prop where
  lst : ∀ a xs, SqL K H a xs → xs.length ≤ LN
  tup : ∀ a xs, SqT K H a xs → xs.length ≤ LN
theorem Inv.sz {pins : List (Addr × Obj)} {σ : L2.St} {H : Hp} {s : Shared} (I : Inv X pins σ H s) : SzOk X.K H :=
  ⟨fun a xs h => by obtain ⟨_, _, _, z⟩ := I.list h; rw [LN_eq]; exact z, fun a xs h => by obtain ⟨_, _, _, z⟩ := I.tuple h; rw [LN_eq]; exact z⟩
theorem pe_size {t : TE} (h : PE X e t) : PE X e (fun σ H Q => t σ H fun v H1 => SzOk X.K H1 → Q v H1) :=
  ⟨fun pins s σ H Q I q => thn (h.run pins s σ H _ I q) fun u s1 ⟨v, H1, I1, r1, q1⟩ => ⟨v, H1, I1, r1, q1 (Inv.sz I1)⟩⟩
theorem Ext.sqt {K : PySem.W.Frag} {H H' : Hp} {a : Addr} {xs : List V} (h : Ext H H') (q : SqT K H a xs) : SqT K H' a xs := h.le.sqt q
theorem Ext.sql {K : PySem.W.Frag} {H H' : Hp} {a : Addr} {xs : List V} (h : Ext H H') (q : SqL K H a xs) : SqL K H' a xs := h.le.sql q
theorem yields_list {K : PySem.W.Frag} {p : Addr} {vs : List V} {ds : List D} {Gs G : Hp} (hp : SqL K Gs p vs) (r : Reps K G vs ds) (hl : vs.length ≤ LN) : Yields K (Itl K p) ds Gs G := by
  refine ⟨by rw [← r.length]; exact hl, ?_⟩
  intro h H ho x y i
  have hq := x.sql hp
  refine ⟨fun d hd => ?_, fun hi => ⟨vs, hq, by rw [r.length]; exact hi⟩⟩
  obtain ⟨v, hv, rv⟩ := r.get hd
  refine ⟨⟨vs, v, hq, hv⟩, fun z H' hy => ?_⟩
  obtain ⟨rfl, hz⟩ := hy
  have hz := hz vs hq
  rw [hv] at hz; cases hz
  exact ⟨Ext.refl, Rep.mono y.le rv⟩
theorem yields_tup {K : PySem.W.Frag} {p : Addr} {vs : List V} {ds : List D} {Gs G : Hp} (hp : SqT K Gs p vs) (r : Reps K G vs ds) (hl : vs.length ≤ LN) : Yields K (Itt K p) ds Gs G := by
  refine ⟨by rw [← r.length]; exact hl, ?_⟩
  intro h H ho x y i
  have hq := x.sqt hp
  refine ⟨fun d hd => ?_, fun hi => ⟨vs, hq, by rw [r.length]; exact hi⟩⟩
  obtain ⟨v, hv, rv⟩ := r.get hd
  refine ⟨⟨vs, v, hq, hv⟩, fun z H' hy => ?_⟩
  obtain ⟨rfl, hz⟩ := hy
  have hz := hz vs hq
  rw [hv] at hz; cases hz
  exact ⟨Ext.refl, Rep.mono y.le rv⟩
theorem yields_str {K : PySem.W.Frag} {x : List Nat} {Gs G : Hp} (ok : okS x) : Yields K (Its (toS x)) (x.map fun c => .str [c]) Gs G := by
  refine ⟨by rw [List.length_map]; exact ok.1, ?_⟩
  intro h H ho _ _ i
  refine ⟨fun d hd => ?_, fun hi => ?_⟩
  · rw [List.getElem?_map] at hd
    obtain ⟨c, hc, rfl⟩ := Option.map_eq_some_iff.mp hd
    have hi : i < x.length := (List.getElem?_eq_some_iff.mp hc).1
    refine ⟨by show i < (toS x).cps.size; simpa using hi, fun z H' hy => ?_⟩
    obtain ⟨rfl, c', hc', rfl⟩ := hy
    have : c' = c := by
      have : x[i]? = some c' := by simpa using hc'
      rw [hc] at this; exact (Option.some.inj this).symm
    subst this
    exact ⟨Ext.refl, .str ⟨by show 1 ≤ LN; unfold LN; omega, fun z hz => by rw [List.mem_singleton.mp hz]; exact ok.2 c' (List.mem_of_getElem? hc)⟩⟩
  · show (toS x).cps.size ≤ i
    simpa using hi
theorem rngD_get : ∀ (k : Nat) (lo : Int) (i : Nat), (rngD lo k)[i]? = if i < k then some (.int (lo + i)) else none
  | 0, lo, i => by simp [rngD]
  | k + 1, lo, 0 => by simp [rngD]
  | k + 1, lo, i + 1 => by
    show (rngD (lo + 1) k)[i]? = _
    rw [rngD_get k (lo + 1) i]
    by_cases h : i < k
    · rw [if_pos h, if_pos (by omega)]; congr 2; push_cast; omega
    · rw [if_neg h, if_neg (by omega)]
theorem rngD_length : ∀ (k : Nat) (lo : Int), (rngD lo k).length = k
  | 0, _ => rfl
  | k + 1, lo => by show (rngD (lo + 1) k).length + 1 = _; rw [rngD_length k]
theorem yields_rng {K : PySem.W.Frag} {lo : Int} {n : Nat} {Gs G : Hp} (hn : n ≤ LN) : Yields K (Itr lo n) (rngD lo n) Gs G := by
  refine ⟨by rw [rngD_length]; exact hn, ?_⟩
  intro h H ho _ _ i
  refine ⟨fun d hd => ?_, fun hi => by rw [rngD_length] at hi; exact hi⟩
  rw [rngD_get] at hd
  by_cases q : i < n
  · rw [if_pos q] at hd; cases hd
    refine ⟨q, fun z H' hy => ?_⟩
    obtain ⟨rfl, rfl⟩ := hy
    exact ⟨Ext.refl, .int _⟩
  · rw [if_neg q] at hd; cases hd

theorem noX_iter (d : D) : NoX (iterD d) := by
  cases d <;> simp only [iterD] <;> first | exact .ok | exact .bad
theorem vals_ints_reps {K : PySem.W.Frag} {G : Hp} : ∀ ns : List Int, Reps K G (ns.map V.int) (ns.map D.int)
  | [] => .nil
  | n :: ns => .cons (.int n) (vals_ints_reps ns)
/-- a list, a tuple, a text (no dict) that is walked -/
theorem pi_of (hl : PE X e (tE X.K Z c ra)) (hc : c ≠ .leaky) : PI X tg e (tI X.K Z c fun env => (ra env).bind iterD) := by
  refine pi_mono (pi_or (pi_list (pe_size hl)) (pi_or (pi_tup (pe_size hl)) (pi_str (pe_size hl)))) fun σ H R q => ?_
  obtain ⟨O, env, en, q⟩ := q
  have q : Post ((ra env).bind iterD) (fun ds => ∀ J H1, Ext H H1 → Yields X.K J ds (srcH c O H1) (hide O.o H1) → R J H1) (Z σ H) := q
  have un : ∀ H1, under c O H1 = hide O.o H1 := fun H1 => by cases c <;> first | rfl | exact absurd rfl hc
  cases hr : ra env with
  | bad => rw [hr] at q; exact q.elim
  | exc c' as =>
    rw [hr] at q
    exact .inl ⟨O, env, en, by rw [hr]; exact q⟩
  | ok d =>
    rw [hr, TQ.R.bind_ok] at q
    cases d <;> simp only [iterD] at q <;> try (exact (q : False).elim)
    · rename_i x
      refine .inr (.inr ⟨O, env, en, ?_⟩)
      rw [hr]
      intro v H1 x1 r1 sz
      obtain ⟨rfl, ok⟩ := r1.str
      exact ⟨_, rfl, q _ H1 x1 (yields_str ok)⟩
    · refine .inr (.inl ⟨O, env, en, ?_⟩)
      rw [hr]
      intro v H1 x1 r1 sz
      cases c with
      | leaky => exact absurd rfl hc
      | clean =>
        cases (show Rep X.K (hide O.o H1) v _ from r1) with
        | tup h1 r2 => exact ⟨_, rfl, ⟨_, hide_ext.le.sqt h1⟩, q _ H1 x1 (yields_tup h1 r2 (sz.tup _ _ (hide_ext.le.sqt h1)))⟩
      | top =>
        obtain ⟨p, vs, rfl, h1, r2⟩ := r1.tup
        exact ⟨_, rfl, ⟨_, h1⟩, q _ H1 x1 (yields_tup h1 r2 (sz.tup _ _ h1))⟩
    · refine .inl ⟨O, env, en, ?_⟩
      rw [hr]
      intro v H1 x1 r1 sz
      cases c with
      | leaky => exact absurd rfl hc
      | clean =>
        cases (show Rep X.K (hide O.o H1) v _ from r1) with
        | lst h1 r2 => exact ⟨_, rfl, ⟨_, .inl (.inl (hide_ext _ _ h1))⟩, q _ H1 x1 (yields_list (.inl (.inl h1)) r2 (sz.lst _ _ (.inl (.inl (hide_ext _ _ h1)))))⟩
      | top =>
        obtain ⟨p, vs, rfl, h1, r2⟩ := r1.lst
        exact ⟨_, rfl, ⟨_, .inl (.inl h1)⟩, q _ H1 x1 (yields_list (.inl (.inl h1)) r2 (sz.lst _ _ (.inl (.inl h1))))⟩
    · refine .inl ⟨O, env, en, ?_⟩
      rw [hr]
      intro v H1 x1 r1 sz
      cases c with
      | leaky => exact absurd rfl hc
      | clean =>
        cases (show Rep X.K (hide O.o H1) v _ from r1) with
        | scr h1 => exact ⟨_, rfl, ⟨_, hide_ext.le.sql h1⟩, q _ H1 x1 (yields_list h1 (vals_ints_reps _) (sz.lst _ _ (hide_ext.le.sql h1)))⟩
      | top =>
        obtain ⟨p, rfl, h1⟩ := r1.scr
        exact ⟨_, rfl, ⟨_, h1⟩, q _ H1 x1 (yields_list h1 (vals_ints_reps _) (sz.lst _ _ h1))⟩
theorem noX_rng1 (d : D) : NoX (rng1R d) := by
  cases d <;> simp only [rng1R] <;> first | exact .bad | exact .ite .ok .bad
theorem noX_rng2 (d e : D) : NoX (rng2R d e) := by
  cases d <;> cases e <;> simp only [rng2R] <;> first | exact .bad | exact .ite .ok .bad
theorem pi_rng1 {x : Str} {p : Pos} (hx : x = "range") (hz : ZMono Z) (hg : Gl X x) (hm : X.mg x = none) (ha : PE X a (tE X.K Z ca ra)) (hst : starEach [a] X.env = (false, eval a X.env) :: starEach [] X.env) :
    PI X tg (.Call (.Name x p) [a] [] pos) (tI X.K Z .clean fun env => (ra env).bind rng1R) := by
  subst hx
  refine pi_mono (pi_range1 hg hm (pa_cons ha pa_nil hst) hst) fun σ H R q => ?_
  obtain ⟨O, env, en, q⟩ := q
  refine tE_then (f := fun _ x => rng1R x) hz en q fun d v H1 ed x1 e1 r1 h1 => ?_
  cases d <;> simp only [rng1R] at h1 <;> try (exact (h1 : False).elim)
  split at h1
  · rename_i hc
    cases r1.int
    have hL : LN = 16777216 := rfl
    refine ⟨_, rfl, by omega, by omega, (show ∀ J H1, Ext H H1 → Yields X.K J _ _ _ → R J H1 from h1) _ H1 x1 (yields_rng (by omega))⟩
  · exact h1.elim
theorem pi_rng2 {x : Str} {p : Pos} (hx : x = "range") (hz : ZMono Z) (hg : Gl X x) (hm : X.mg x = none) (ha : PE X a (tE X.K Z ca ra)) (hb : PE X b (tE X.K Z cb rb)) (hst : starEach [a, b] X.env = (false, eval a X.env) :: starEach [b] X.env) (hst2 : starEach [b] X.env = (false, eval b X.env) :: starEach [] X.env) :
    PI X tg (.Call (.Name x p) [a, b] [] pos) (tI X.K Z .clean fun env => (ra env).bind fun x => (rb env).bind fun y => rng2R x y) := by
  subst hx
  refine pi_mono (pi_range2 hg hm (pa_cons ha (pa_cons hb pa_nil hst2) hst) (by rw [hst, hst2]; rfl) hst2) fun σ H R q => ?_
  obtain ⟨O, env, en, q⟩ := q
  refine tE_then (f := fun env x => (rb env).bind fun y => rng2R x y) hz en q fun d v H1 ed x1 e1 r1 h1 => ?_
  refine tE_then (f := fun _ y => rng2R d y) hz e1 h1 fun d2 v2 H2 ed2 x2 e2 r2 h2 => ?_
  cases d <;> cases d2 <;> simp only [rng2R] at h2 <;> try (exact (h2 : False).elim)
  split at h2
  · rename_i hc
    cases r1.int; cases r2.int
    have hL : LN = 16777216 := rfl
    refine ⟨_, _, rfl, ⟨by omega, by omega, by omega, by omega⟩, (show ∀ J H1, Ext H H1 → Yields X.K J _ _ _ → R J H1 from h2) _ H2 (x1.trans x2) (yields_rng (by omega))⟩
  · exact h2.elim
end
end TQ

/-! DS9: targets; comprehensions. -/
namespace TQ
open PySem PySem.Spec PyProof.Rows L2

/-! ### names -/
theorem nEq_ok : ∀ {a b : List Nat}, nEq a b = true → a = b
  | [], [], _ => rfl
  | [], _ :: _, h => by cases h
  | _ :: _, [], h => by cases h
  | a :: as, b :: bs, h => by
    have h : (Nat.beq a b && nEq as bs) = true := h
    rw [Bool.and_eq_true] at h
    rw [Nat.eq_of_beq_eq_true h.1, nEq_ok h.2]
theorem nEq_refl : ∀ a : List Nat, nEq a a = true
  | [] => rfl
  | a :: as => by
    show (Nat.beq a a && nEq as as) = true
    rw [Nat.beq_refl, nEq_refl as]; rfl
theorem sEq_iff {a b : Str} : sEq a b = true ↔ a = b := by
  constructor
  · intro h; exact Str.ext' (Array.toList_inj.mp (nEq_ok h))
  · rintro rfl; exact nEq_refl _
theorem sEq_eq (a b : Str) : sEq a b = (a == b) := by
  rw [Bool.eq_iff_iff, sEq_iff, beq_iff_eq]
theorem fl_eq {α : Type} : ∀ (l : List (Str × α)) (x : Str), fl l x = l.lookup x
  | [], _ => rfl
  | (k, v) :: r, x => by
    show (if sEq x k = true then some v else fl r x) = _
    rw [List.lookup_cons, sEq_eq, fl_eq r x]
    cases x == k <;> rfl
theorem ixOf_ok : ∀ {N : List Str} {x : Str} {k i : Nat}, ixOf N x k = some i → k ≤ i ∧ N[i - k]? = some x
  | [], _, _, _, h => by cases h
  | y :: r, x, k, i, h => by
    have h : (if sEq y x = true then some k else ixOf r x (k + 1)) = some i := h
    by_cases e : sEq y x = true
    · rw [if_pos e] at h; cases h
      rw [sEq_iff.mp e]; simp
    · rw [if_neg e] at h
      obtain ⟨h1, h2⟩ := ixOf_ok h
      refine ⟨by omega, ?_⟩
      obtain ⟨j, rfl⟩ : ∃ j, i = k + 1 + j := ⟨i - (k + 1), by omega⟩
      rw [show k + 1 + j - k = j + 1 by omega]
      rw [show k + 1 + j - (k + 1) = j by omega] at h2
      simpa using h2
theorem ixOf_at {N : List Str} {x : Str} {i : Nat} (h : ixOf N x 0 = some i) : N[i]? = some x := by simpa using (ixOf_ok h).2
theorem memS_ok {x : Str} : ∀ {l : List Str}, memS x l = true → x ∈ l
  | [], h => by cases h
  | y :: r, h => by
    have h : (sEq y x || memS x r) = true := h
    rw [Bool.or_eq_true] at h
    rcases h with h | h
    · rw [sEq_iff.mp h]; exact List.mem_cons_self
    · exact List.mem_cons_of_mem _ (memS_ok h)

/-! ### targets -/
mutual
def slT : Tg → List Nat
  | .nm i => [i]
  | .tp ts => slTs ts
def slTs : Tgs → List Nat
  | .nil => []
  | .cons t ts => slT t ++ slTs ts
def lenTs : Tgs → Nat
  | .nil => 0
  | .cons _ ts => lenTs ts + 1
end
mutual
def gTg (K : PySem.W.Frag) : Tg → TG
  | .nm i => gName i
  | .tp ts => gTup K (lenTs ts) (gTgs K ts)
def gTgs (K : PySem.W.Frag) : Tgs → TGs
  | .nil => gNil
  | .cons t ts => gCons (gTg K t) (gTgs K ts)
end
/-- the places' representations but for those in S -/
structure EnvP (K : PySem.W.Frag) (O : Hid) (H : Hp) (S : Nat → Prop) (σ : L2.St) (env : Env) : Prop where
  ok : OOk O H
  at_ : ∀ i, S i ∨ SlotR K O H σ[i]? (getS env i)
theorem EnvR.p {K : PySem.W.Frag} {O : Hid} {H : Hp} {S : Nat → Prop} {σ : L2.St} {env : Env} (r : EnvR K O H σ env) : EnvP K O H S σ env := ⟨r.ok, fun i => .inr (r.at_ i)⟩
theorem EnvP.r {K : PySem.W.Frag} {O : Hid} {H : Hp} {S : Nat → Prop} {σ : L2.St} {env : Env} (r : EnvP K O H S σ env) (h : ∀ i, ¬ S i) : EnvR K O H σ env := ⟨r.ok, fun i => (r.at_ i).resolve_left (h i)⟩
theorem EnvP.set {K : PySem.W.Frag} {O : Hid} {H : Hp} {S : Nat → Prop} {σ : L2.St} {env : Env} {i : Nat} {v : V} {d : D} (r : EnvP K O H S σ env) (hi : i < σ.length) (h : Rep K (hide O.o H) v d) :
    EnvP K O H (fun j => S j ∧ j ≠ i) (σ.set i (some v)) (setS env i (.val d)) := by
  refine ⟨r.ok, fun j => ?_⟩
  by_cases e : j = i
  · subst e
    refine .inr ?_
    rw [List.getElem?_set_self hi]
    by_cases hl : j < env.length
    · rw [getS_set_same hl]; exact ⟨v, rfl, h⟩
    · rw [getS_out (by rw [setS_length]; omega)]; trivial
  · rw [List.getElem?_set_ne (Ne.symm e), getS_set_other e]
    rcases r.at_ j with q | q
    · exact .inl ⟨q, e⟩
    · exact .inr q
/-- what does not lie at the target's places stands -/
def Same (L : List Nat) (σ σ' : L2.St) : Prop := σ'.length = σ.length ∧ ∀ j, j ∉ L → σ'[j]? = σ[j]?
theorem Same.wipe {vs L : List Nat} {σ σ' : L2.St} (h : Same L σ σ') (hs : ∀ j ∈ L, j ∈ vs) : wipe σ' vs = wipe σ vs := by
  refine List.ext_getElem? fun j => ?_
  by_cases hj : j ∈ vs
  · have key : ∀ (τ : L2.St) (ws : List Nat), j ∈ ws → j < τ.length → (L2.wipe τ ws)[j]? = some none := by
      intro τ ws
      induction ws with
      | nil => intro h; cases h
      | cons w ws ih =>
        intro hm hl
        show ((L2.wipe τ ws).set w none)[j]? = some none
        by_cases e : w = j
        · subst e; rw [List.getElem?_set_self (by rw [wipe_length]; exact hl)]
        · rw [List.getElem?_set_ne e]
          exact ih ((List.mem_cons.mp hm).resolve_left fun q => e q.symm) hl
    by_cases hl : j < σ.length
    · rw [key σ vs hj hl, key σ' vs hj (by rw [h.1]; exact hl)]
    · rw [List.getElem?_eq_none (by rw [wipe_length, h.1]; omega), List.getElem?_eq_none (by rw [wipe_length]; omega)]
  · rw [wipe_out hj, wipe_out hj]
    exact h.2 j fun q => hj (hs j q)
mutual
theorem gTg_ok {K : PySem.W.Frag} {O : Hid} {H : Hp} : ∀ (t : Tg) {S : Nat → Prop} {σ : L2.St} {env env' : Env} {v : V} {d : D} {Q : L2.St → Hp → Prop}, EnvP K O H S σ env → Rep K (hide O.o H) v d → setT t d env = .ok env' → (∀ i ∈ slT t, i < σ.length) →
    (∀ σ', EnvP K O H (fun j => S j ∧ j ∉ slT t) σ' env' → Same (slT t) σ σ' → Q σ' H) → gTg K t v σ H Q
  | .nm i, S, σ, env, env', v, d, Q, e, r, hs, hl, hq => by
    cases hs
    refine hq _ ?_ ⟨by rw [List.length_set], fun j hj => ?_⟩
    · have := e.set (hl i (List.mem_singleton.mpr rfl)) r
      refine ⟨this.ok, fun j => (this.at_ j).imp (fun ⟨a, b⟩ => ⟨a, fun m => b (List.mem_singleton.mp m)⟩) id⟩
    · rw [List.getElem?_set_ne fun q => hj (List.mem_singleton.mpr q.symm)]
  | .tp ts, S, σ, env, env', v, d, Q, e, r, hs, hl, hq => by
    cases d with
    | tup ds =>
      cases r with
      | tup h1 r2 =>
        have hn : ds.length = lenTs ts := setTs_len ts hs
        exact ⟨_, _, rfl, hide_ext.le.sqt h1, by rw [r2.length, hn], gTgs_ok ts e r2 hs hl hq⟩
    | _ => cases hs
theorem gTgs_ok {K : PySem.W.Frag} {O : Hid} {H : Hp} : ∀ (ts : Tgs) {S : Nat → Prop} {σ : L2.St} {env env' : Env} {vs : List V} {ds : List D} {Q : L2.St → Hp → Prop}, EnvP K O H S σ env → Reps K (hide O.o H) vs ds → setTs ts ds env = .ok env' → (∀ i ∈ slTs ts, i < σ.length) →
    (∀ σ', EnvP K O H (fun j => S j ∧ j ∉ slTs ts) σ' env' → Same (slTs ts) σ σ' → Q σ' H) → gTgs K ts vs σ H Q
  | .nil, S, σ, env, env', vs, ds, Q, e, r, hs, hl, hq => by
    cases ds with
    | nil =>
      cases hs; cases r
      exact ⟨rfl, hq σ ⟨e.ok, fun j => (e.at_ j).imp (fun a => ⟨a, fun m => nomatch m⟩) id⟩ ⟨rfl, fun _ _ => rfl⟩⟩
    | cons d ds => cases hs
  | .cons t ts, S, σ, env, env', vs, ds, Q, e, r, hs, hl, hq => by
    cases ds with
    | nil => cases hs
    | cons d ds =>
      cases r with
      | cons r1 r2 =>
        obtain ⟨env1, h1, h2⟩ := R.bind_eq_ok (show (setT t d env).bind (fun env' => setTs ts ds env') = .ok env' from hs)
        refine ⟨_, _, rfl, gTg_ok t e r1 h1 (fun i hi => hl i (List.mem_append_left _ hi)) fun σ1 e1 s1 => ?_⟩
        refine gTgs_ok ts e1 r2 h2 (fun i hi => by rw [s1.1]; exact hl i (List.mem_append_right _ hi)) fun σ2 e2 s2 => ?_
        refine hq σ2 ⟨e2.ok, fun j => (e2.at_ j).imp (fun ⟨⟨a, b⟩, c⟩ => ⟨a, fun m => (List.mem_append.mp m).elim b c⟩) id⟩ ⟨s2.1.trans s1.1, fun j hj => ?_⟩
        rw [s2.2 j fun m => hj (List.mem_append_right _ m), s1.2 j fun m => hj (List.mem_append_left _ m)]
theorem setTs_len : ∀ (ts : Tgs) {ds : List D} {env env' : Env}, setTs ts ds env = .ok env' → ds.length = lenTs ts
  | .nil, ds, env, env', h => by
    cases ds with
    | nil => rfl
    | cons => cases h
  | .cons t ts, ds, env, env', h => by
    cases ds with
    | nil => cases h
    | cons d ds =>
      obtain ⟨env1, h1, h2⟩ := R.bind_eq_ok (show (setT t d env).bind (fun env' => setTs ts ds env') = .ok env' from h)
      show ds.length + 1 = lenTs ts + 1
      rw [setTs_len ts h2]
end

/-! ### a target's trees -/
/-- where a name may be stored -/
structure StOk (X : Cx) (x : Str) : Prop where
  loc : Loc X.env.scope x
  fn : X.fn x = true ∨ X.env.scope.names.lookup x = some .local
theorem assignEach_cons {X : Cx} {e : Expr} {es : List Expr} {N : List Str} {mu : List Nat} {n : Nat} {t : Tg} (h : trT N mu n e = some t) : assignEach (e :: es) X.env = (false, assign e X.env) :: assignEach es X.env := by
  cases n with
  | zero => cases h
  | succ n => cases e <;> first | rfl | (exfalso; revert h; simp [trT])
def trTs (N : List Str) (mu : List Nat) (n : Nat) (es : List Expr) : Option Tgs := es.foldr (fun e r => (trT N mu n e).bind fun t => r.bind fun ts => some (Tgs.cons t ts)) (some .nil)
def nmTs (N : List Str) (n : Nat) (es : List Expr) : Option (List (Str × Nat)) := es.foldr (fun e r => (namesT N n e).bind fun a => r.bind fun b => some (a ++ b)) (some [])
section
variable {X : Cx} {mu : List Nat}
theorem pgs_of {n : Nat} (ih : ∀ e t own, trT X.N mu n e = some t → namesT X.N n e = some own → (∀ p ∈ own, StOk X p.1) → PG X e (gTg X.K t) ∧ (∀ i ∈ slT t, ∃ p ∈ own, p.2 = i) ∧ ∀ p ∈ own, X.N[p.2]? = some p.1 ∧ p.2 ∈ slT t) :
    ∀ (es : List Expr) (ts : Tgs) (own : List (Str × Nat)), trTs X.N mu n es = some ts → nmTs X.N n es = some own → (∀ p ∈ own, StOk X p.1) →
      PGs X es (gTgs X.K ts) ∧ (∀ i ∈ slTs ts, ∃ p ∈ own, p.2 = i) ∧ (∀ p ∈ own, X.N[p.2]? = some p.1 ∧ p.2 ∈ slTs ts) ∧ (assignEach es X.env).length = lenTs ts ∧ (assignEach es X.env).findIdx? (·.1) = none
  | [], ts, own, h, h', hs => by
    cases h; cases h'
    exact ⟨pgs_nil, (fun i hi => absurd hi List.not_mem_nil), (fun p hp => absurd hp List.not_mem_nil), rfl, rfl⟩
  | e :: es, ts, own, h, h', hs => by
    have h : (trT X.N mu n e).bind (fun t => (trTs X.N mu n es).bind fun ts => some (Tgs.cons t ts)) = some ts := h
    have h' : (namesT X.N n e).bind (fun a => (nmTs X.N n es).bind fun b => some (a ++ b)) = some own := h'
    obtain ⟨t, h1, h⟩ := Option.bind_eq_some_iff.mp h
    obtain ⟨ts', h2, h⟩ := Option.bind_eq_some_iff.mp h
    obtain ⟨o1, h3, h'⟩ := Option.bind_eq_some_iff.mp h'
    obtain ⟨o2, h4, h'⟩ := Option.bind_eq_some_iff.mp h'
    cases h; cases h'
    obtain ⟨p1, p2, p3⟩ := ih e t o1 h1 h3 fun p hp => hs p (List.mem_append_left _ hp)
    obtain ⟨q1, q2, q3, q4, q5⟩ := pgs_of ih es ts' o2 h2 h4 fun p hp => hs p (List.mem_append_right _ hp)
    have ea := assignEach_cons (X := X) (es := es) h1
    refine ⟨pgs_cons p1 q1 (by rw [ea]; rfl), fun i hi => ?_, fun p hp => ?_, by rw [ea]; show _ + 1 = _ + 1; rw [q4], by rw [ea]; simp [List.findIdx?_cons, q5]⟩
    · rcases List.mem_append.mp hi with hi | hi
      · obtain ⟨p, hp, e⟩ := p2 i hi; exact ⟨p, List.mem_append_left _ hp, e⟩
      · obtain ⟨p, hp, e⟩ := q2 i hi; exact ⟨p, List.mem_append_right _ hp, e⟩
    · rcases List.mem_append.mp hp with hp | hp
      · exact ⟨(p3 p hp).1, List.mem_append_left _ (p3 p hp).2⟩
      · exact ⟨(q3 p hp).1, List.mem_append_right _ (q3 p hp).2⟩
theorem pg_of (hc : X.calm = true) (nd : X.N.Nodup) : ∀ (n : Nat) (e : Expr) (t : Tg) (own : List (Str × Nat)), trT X.N mu n e = some t → namesT X.N n e = some own → (∀ p ∈ own, StOk X p.1) →
    PG X e (gTg X.K t) ∧ (∀ i ∈ slT t, ∃ p ∈ own, p.2 = i) ∧ ∀ p ∈ own, X.N[p.2]? = some p.1 ∧ p.2 ∈ slT t
  | 0, _, _, _, h, _, _ => by cases h
  | n + 1, e, t, own, h, h', hs => by
    cases e with
    | Name x pos =>
      have h : ((ixOf X.N x 0).bind fun i => if mu.contains i then none else some (Tg.nm i)) = some t := h
      have h' : ((ixOf X.N x 0).map fun i => [(x, i)]) = some own := h'
      obtain ⟨i, h1, h⟩ := Option.bind_eq_some_iff.mp h
      rw [h1] at h'
      cases h'
      split at h
      · cases h
      · cases h
        have s := hs (x, i) (List.mem_singleton.mpr rfl)
        refine ⟨pg_name nd (ixOf_at h1) s.loc s.fn, fun j hj => ⟨(x, i), List.mem_singleton.mpr rfl, (List.mem_singleton.mp hj).symm⟩, fun p hp => ?_⟩
        rw [List.mem_singleton.mp hp]
        exact ⟨ixOf_at h1, List.mem_singleton.mpr rfl⟩
    | Tuple es k pos =>
      have h : (trTs X.N mu n es).map Tg.tp = some t := h
      have h' : nmTs X.N n es = some own := h'
      obtain ⟨ts, h1, rfl⟩ := Option.map_eq_some_iff.mp h
      obtain ⟨p1, p2, p3, p4, p5⟩ := pgs_of (pg_of hc nd n) es ts own h1 h' hs
      exact ⟨pg_tup hc p1 p4 p5, p2, p3⟩
    | _ => cases h
end
end TQ

/-! DS10: list comprehensions. -/
namespace TQ
open PySem PySem.Spec PyProof.Rows L2

theorem compD_split {f : D → R (Option D)} : ∀ {l r : List D} {xs : List D}, compD f (l ++ r) = .ok xs → ∃ ys zs, compD f l = .ok ys ∧ compD f r = .ok zs ∧ xs = ys ++ zs
  | [], r, xs, h => ⟨[], xs, rfl, h, rfl⟩
  | d :: l, r, xs, h => by
    have h : ((f d).bindB fun o => (compD f (l ++ r)).bindB fun xs => R.ok (consO o xs)) = .ok xs := h
    cases hf : f d with
    | ok o =>
      rw [hf, R.bindB_ok] at h
      cases hr : compD f (l ++ r) with
      | ok us =>
        rw [hr, R.bindB_ok] at h
        obtain ⟨ys, zs, h1, h2, rfl⟩ := compD_split hr
        refine ⟨consO o ys, zs, ?_, h2, ?_⟩
        · show ((f d).bindB fun o => (compD f l).bindB fun xs => R.ok (consO o xs)) = _
          rw [hf, h1]; rfl
        · cases h; cases o <;> rfl
      | exc c as => rw [hr] at h; cases h
      | bad => rw [hr] at h; cases h
    | exc c as => rw [hf] at h; cases h
    | bad => rw [hf] at h; cases h
theorem compD_cons {f : D → R (Option D)} {d : D} {r xs : List D} (h : compD f (d :: r) = .ok xs) : ∃ o ys, f d = .ok o ∧ compD f r = .ok ys ∧ xs = consO o ys := by
  have h : ((f d).bindB fun o => (compD f r).bindB fun xs => R.ok (consO o xs)) = .ok xs := h
  cases hf : f d with
  | ok o =>
    rw [hf, R.bindB_ok] at h
    cases hr : compD f r with
    | ok us => rw [hr, R.bindB_ok] at h; cases h; exact ⟨o, us, rfl, rfl, rfl⟩
    | exc c as => rw [hr] at h; cases h
    | bad => rw [hr] at h; cases h
  | exc c as => rw [hf] at h; cases h
  | bad => rw [hf] at h; cases h
theorem compD_snoc {f : D → R (Option D)} {d : D} {o : Option D} (h3 : f d = .ok o) : ∀ {l ys : List D}, compD f l = .ok ys → compD f (l ++ [d]) = .ok (ys ++ o.toList)
  | [], ys, hy => by
    cases hy
    show ((f d).bindB fun o => (compD f []).bindB fun xs => R.ok (consO o xs)) = _
    rw [h3]; cases o <;> rfl
  | a :: l, ys, hy => by
    obtain ⟨o2, vs, h5, h6, rfl⟩ := compD_cons hy
    have := compD_snoc h3 h6
    show ((f a).bindB fun o => (compD f (l ++ [d])).bindB fun xs => R.ok (consO o xs)) = _
    rw [h5, this]
    cases o2 <;> rfl
theorem compD_at {f : D → R (Option D)} {ds : List D} {xs : List D} {i : Nat} {d : D} (h : compD f ds = .ok xs) (hd : ds[i]? = some d) {ys : List D} (hy : compD f (ds.take i) = .ok ys) :
    ∃ o, f d = .ok o ∧ compD f (ds.take (i + 1)) = .ok (ys ++ o.toList) := by
  have hi : i < ds.length := (List.getElem?_eq_some_iff.mp hd).1
  have e : ds = ds.take i ++ d :: ds.drop (i + 1) := by
    have := List.take_append_drop i ds
    rw [List.drop_eq_getElem_cons hi, (List.getElem?_eq_some_iff.mp hd).2] at this
    exact this.symm
  rw [e] at h
  obtain ⟨ys', zs, h1, h2, _⟩ := compD_split h
  rw [hy] at h1; cases h1
  obtain ⟨o, us, h3, _, _⟩ := compD_cons h2
  refine ⟨o, h3, ?_⟩
  have et : ds.take (i + 1) = ds.take i ++ [d] := by rw [List.take_add_one, hd]; rfl
  rw [et]
  exact compD_snoc h3 hy
theorem compD_noX {f : D → R (Option D)} : ∀ ds, NoX (compD f ds)
  | [] => .ok
  | d :: r => by
    intro c as h
    have h : ((f d).bindB fun o => (compD f r).bindB fun xs => R.ok (consO o xs)) = .exc c as := h
    cases hf : f d with
    | ok o =>
      rw [hf, R.bindB_ok] at h
      cases hr : compD f r <;> rw [hr] at h <;> cases h
    | exc c as => rw [hf] at h; cases h
    | bad => rw [hf] at h; cases h

/-- one thing more is hidden -/
def Hid.plus (O : Hid) (D : Addr) : Hid := ⟨fun a => O.b a ∨ a = D, fun a => O.o a ∨ a = D, fun a h => h.imp (O.le a) id⟩
theorem plus_ext {O : Hid} {D : Addr} {H H' : Hp} (h : Ext H H') (hD : H D = none) : Ext (hide O.o H) (hide (O.plus D).o H') := fun b o e => by
  obtain ⟨n, e⟩ := hide_some e
  rw [hide_of]
  · exact h b o e
  · rintro (z | rfl)
    · exact n z
    · rw [hD] at e; cases e
theorem plus_sub {c : Cls} {O : Hid} {D : Addr} {H : Hp} : Ext (under c (O.plus D) H) (under c O H) := by
  cases c <;> exact hide_sub fun a h => .inl h
theorem plus_upd {c : Cls} {O : Hid} {D : Addr} {H : Hp} {o : HO} : under c (O.plus D) (upd H D o) = under c (O.plus D) H := by
  cases c <;> exact hide_upd (.inr rfl)
theorem SlotR.plus {K : PySem.W.Frag} {O : Hid} {D : Addr} {H H' : Hp} {v : Option (Option V)} {s : Slot} (h : Ext H H') (hD : H D = none) (r : SlotR K O H v s) : SlotR K (O.plus D) H' v s := by
  have hx := plus_ext (O := O) h hD
  cases s with
  | no => trivial
  | val d => obtain ⟨u, e, r⟩ := r; exact ⟨u, e, Rep.mono hx.le r⟩
  | ml ds =>
    obtain ⟨a, vs, e, o, nb, e2, r⟩ := r
    refine ⟨a, vs, e, .inl o, ?_, h _ _ e2, Reps.mono hx.le r⟩
    rintro (z | rfl)
    · exact nb z
    · rw [hD] at e2; cases e2
  | md ds =>
    obtain ⟨a, kvs, e, o, nb, e2, r⟩ := r
    refine ⟨a, kvs, e, .inl o, ?_, h.le.rd _ _ e2, RepK.mono hx.le r⟩
    rintro (z | rfl)
    · exact nb z
    · rcases e2 with e2 | ⟨_, e2⟩ <;> (rw [hD] at e2; cases e2)

section
variable {X : Cx} {Z Z0 : Zt} {ci ce : Cls} {ri : Env → R (List D)} {re : Env → R D} {rc : Env → R Bool} {elt tg iter : Expr} {ifs : List Expr} {scope : Scope} {own : List (Str × Nat)} {pos : Pos} {t : Tg}
/-- what a comprehension's turn gives -/
def turnD (t : Tg) (rc : Env → R Bool) (re : Env → R D) (env : Env) (d : D) : R (Option D) := (setT t d env).bind fun env' => (rc env').bind fun b => if b then (re env').bind fun x => .ok (some x) else .ok none
theorem arg_ne (c : Cls) : c.arg .clean ≠ .top := by cases c <;> (intro h; cases h)
/-- a new list: its place and its parts -/
def tEC (K : PySem.W.Frag) (Z : Zt) (c : Cls) (r : Env → R D) : TE := fun σ H Q => ∃ O env, EnvR K O H σ env ∧ Post (r env) (fun d => ∀ xs, d = .lst xs → ∀ a vs H', Ext H H' → H a = none → ¬ O.o a → H' a = some (.lst vs) → Reps K (under c (O.plus a) H') vs xs → Q (.ref a) H') (Z σ H)
theorem tEC_of {K : PySem.W.Frag} {Z : Zt} {c : Cls} {r : Env → R D} {σ : L2.St} {H : Hp} {Q : VK} (hne : c ≠ .top) (q : tE K Z c r σ H Q) : tEC K Z c r σ H Q := by
  obtain ⟨O, env, en, q⟩ := q
  refine ⟨O, env, en, q.imp (fun d _ q xs e a vs H' x _ nD h1 h4 => q _ H' x ?_) fun _ _ z => z⟩
  subst e
  refine RepC.of_u hne (.lst ?_ (Reps.mono plus_sub.le h4))
  cases c with
  | clean => show hide O.o H' a = _; rw [hide_of nD]; exact h1
  | top => exact absurd rfl hne
  | leaky => show hide O.b H' a = _; rw [hide_of fun z => nD (O.le a z)]; exact h1
theorem comp_red {σ : L2.St} {H : Hp} {Q : VK} (hl : σ.length = X.N.length) (hs1 : ∀ i ∈ slT t, ∃ p ∈ own, p.2 = i) (hs2 : ∀ p ∈ own, X.N[p.2]? = some p.1 ∧ p.2 ∈ slT t)
    (q : tEC X.K Z (ce.arg .clean) (fun env => (ri env).bind fun ds => (compD (turnD t rc re env) ds).bind fun xs => .ok (.lst xs)) σ H Q) :
    tLc (tI X.K Z ci ri) (gTg X.K t) (tB' X.K Z0 rc) (tE X.K Z0 ce re) (own.map (·.2)) σ H Q := by
  obtain ⟨O, env, en, q⟩ := q
  refine ⟨O, env, en, (Post.bind q).imp (fun ds _ q J H1 x1 y => ?_) fun _ _ z => z⟩
  intro D hD
  -- the whole list
  cases hx : compD (turnD t rc re env) ds with
  | exc c as => exact absurd hx (compD_noX ds c as)
  | bad => rw [hx] at q; exact q.elim
  | ok xs =>
  rw [hx] at q
  have q : ∀ xs', TQ.D.lst xs = TQ.D.lst xs' → ∀ a vs H', Ext H H' → H a = none → ¬ O.o a → H' a = some (.lst vs) → Reps X.K (under (ce.arg .clean) (O.plus a) H') vs xs' → Q (.ref a) H' := q
  have hne := arg_ne ce
  generalize hA : ce.arg .clean = cA at q hne
  have ok1 := en.ok.ext x1
  have nD : ¬ O.o D := fun z => ok1 D z hD
  have y2 : ∀ H', Ext H1 H' → H' D ≠ none → ∀ i, (∀ d, ds[i]? = some d → J.go i H' ∧ ∀ x H2, J.yld i H' x H2 → Ext H' H2 ∧ Rep X.K (hide (O.plus D).o H2) x d) ∧ (ds.length ≤ i → J.stop i H') := fun H' x hd =>
    y.2 (O.plus D).o H' (fun a h => h.elim (fun z => ok1.ext x a z) fun e => by rw [e]; exact hd) (srcH_ext.trans x) (plus_ext x hD)
  refine ⟨fun i m H' => m = ds.length - i ∧ i ≤ ds.length ∧ ∃ vs ys, H' D = some (.lst vs) ∧ vs.length ≤ i ∧ compD (turnD t rc re env) (ds.take i) = .ok ys ∧ Reps X.K (under cA (O.plus D) H') vs ys ∧ Ext H1 H',
    ⟨_, rfl, Nat.zero_le _, [], [], upd_same, Nat.le_refl _, rfl, .nil, Ext.new hD⟩, ?_⟩
  rintro i m H' ⟨rfl, hi, vs, ys, h1, h2, h3, h4, h5⟩
  have hd' : H' D ≠ none := by rw [h1]; simp
  have yi := y2 H' h5 hd' i
  by_cases hlt : i < ds.length
  · refine .inr ⟨(yi.1 ds[i] (List.getElem?_eq_getElem hlt)).1, fun H2 => ∃ vs ys, H2 D = some (.lst vs) ∧ vs.length ≤ i + 1 ∧ compD (turnD t rc re env) (ds.take (i + 1)) = .ok ys ∧ Reps X.K (under cA (O.plus D) H2) vs ys ∧ Ext H1 H2,
      fun H2 n => ⟨ds.length - (i + 1), by omega, rfl, hlt, n⟩, fun x H2 hy => ?_⟩
    obtain ⟨x2, rx⟩ := (yi.1 ds[i] (List.getElem?_eq_getElem hlt)).2 x H2 hy
    obtain ⟨o, ho, hn⟩ := compD_at hx (List.getElem?_eq_getElem hlt) h3
    obtain ⟨env', he1, ho⟩ := R.bind_eq_ok (show (setT t ds[i] env).bind (fun env' => (rc env').bind fun b => if b then (re env').bind fun x => .ok (some x) else .ok none) = .ok o from ho)
    obtain ⟨b, he2, ho⟩ := R.bind_eq_ok ho
    have x12 : Ext H1 H2 := h5.trans x2
    have x02 : Ext H H2 := x1.trans x12
    have hD0 : H D = none := by
      cases e : H D with
      | none => rfl
      | some u => rw [x1 D u e] at hD; cases hD
    have okp : OOk (O.plus D) H2 := fun a h => h.elim (fun z => en.ok.ext x02 a z) fun e => by rw [e, x2 D _ h1]; simp
    have ep : EnvP X.K (O.plus D) H2 (fun j => j ∈ own.map (·.2)) (L2.wipe σ (own.map (·.2))) env := ⟨okp, fun j => by
      by_cases hj : j ∈ own.map (·.2)
      · exact .inl hj
      · refine .inr ?_
        rw [wipe_out hj]
        exact (en.at_ j).plus x02 hD0⟩
    refine gTg_ok t ep rx he1 (fun j hj => ?_) fun σ2 e2 s2 => ?_
    · rw [wipe_length, hl]
      obtain ⟨p, hp, rfl⟩ := hs1 j hj
      exact (List.getElem?_eq_some_iff.mp (hs2 p hp).1).1
    have e2' : EnvR X.K (O.plus D) H2 σ2 env' := e2.r fun j ⟨hj, hn⟩ => by
      obtain ⟨p, hp, rfl⟩ := List.mem_map.mp hj
      exact hn (hs2 p hp).2
    have hw : L2.wipe σ2 (own.map (·.2)) = L2.wipe σ (own.map (·.2)) := by
      have := Same.wipe (vs := own.map (·.2)) s2 fun j hj => by
        obtain ⟨p, hp, rfl⟩ := hs1 j hj
        exact List.mem_map.mpr ⟨p, hp, rfl⟩
      rw [this]
      refine List.ext_getElem? fun j => ?_
      by_cases hj : j ∈ own.map (·.2)
      · have key : ∀ (τ : L2.St) (ws : List Nat), j ∈ ws → (L2.wipe τ ws)[j]? = if j < τ.length then some none else none := by
          intro τ ws
          induction ws with
          | nil => intro h; cases h
          | cons w ws ih =>
            intro hm
            show ((L2.wipe τ ws).set w none)[j]? = _
            by_cases hl : j < τ.length
            · rw [if_pos hl]
              by_cases e : w = j
              · subst e; rw [List.getElem?_set_self (by rw [wipe_length]; exact hl)]
              · rw [List.getElem?_set_ne e, ih ((List.mem_cons.mp hm).resolve_left fun q => e q.symm), if_pos hl]
            · rw [if_neg hl, List.getElem?_eq_none]
              rw [List.length_set, wipe_length]; omega
        rw [key _ _ hj, key _ _ hj, wipe_length]
      · rw [wipe_out hj]
    refine ⟨hw, O.plus D, env', e2', ?_⟩
    rw [he2]
    intro H3 x3
    cases b with
    | false =>
      cases ho
      rw [if_neg Bool.false_ne_true]
      rw [show ys ++ (none : Option TQ.D).toList = ys from List.append_nil ys] at hn
      exact ⟨vs, ys, x3 _ _ (x2 _ _ h1), by omega, hn, Reps.mono ((x2.trans x3).under cA).le h4, x12.trans x3⟩
    | true =>
      obtain ⟨z, hz, ho⟩ := R.bind_eq_ok (show (re env').bind (fun x => .ok (some x)) = .ok o from ho)
      cases ho
      rw [if_pos rfl]
      refine ⟨O.plus D, env', e2'.mono x3, ?_⟩
      rw [hz]
      intro v H4 x4 rv
      have x24 := (x2.trans x3).trans x4
      refine ⟨vs, x24 _ _ h1, by have := y.1; rw [← LN_eq]; omega, vs ++ [v], ys ++ [z], upd_same, by rw [List.length_append]; simp; omega, hn, ?_, fun b u e => ?_⟩
      · rw [plus_upd]
        refine (Reps.mono (x24.under cA).le h4).append (.cons ?_ .nil)
        rw [← hA]; exact rv.arg
      · rw [upd_ne (ne_of_none e hD)]
        exact (h5.trans x24) b u e
  · have e : i = ds.length := by omega
    subst e
    refine .inl ⟨yi.2 (Nat.le_refl _), ?_⟩
    rw [List.take_length, hx] at h3
    cases h3
    have hD0 : H D = none := by
      cases e : H D with
      | none => rfl
      | some u => rw [x1 D u e] at hD; cases hD
    exact q _ rfl D vs H' (x1.trans h5) hD0 nD h1 h4
theorem pe_mono_len {e : Expr} {t t' : TE} (h : PE X e t) (hm : ∀ σ H Q, σ.length = X.N.length → t' σ H Q → t σ H Q) : PE X e t' := ⟨fun pins s σ H Q I q => h.run pins s σ H Q I (hm _ _ _ I.len q)⟩
theorem ps_mono_len {e : Stmt} {t t' : TS} (h : PS X e t) (hm : ∀ D σ H, σ.length = X.N.length → t' D σ H → t D σ H) : PS X e t' := ⟨fun pins s σ H D I q => h.run pins s σ H D I (hm _ _ _ I.len q)⟩
theorem pe_compD (hc : X.calm = true) (nd : X.N.Nodup) (hi : PI X tg iter (tI X.K Z ci ri)) (bk : BlkOk X.N X.env.scope scope own)
    (hs1 : ∀ i ∈ slT t, ∃ p ∈ own, p.2 = i) (hs2 : ∀ p ∈ own, X.N[p.2]? = some p.1 ∧ p.2 ∈ slT t)
    (hg : ∀ (s : Shared) (H : Hp) (C : Addr) (cl : List (Str × Addr)) (fp : List Addr), PG (X.blk s H scope (compEnvC scope cl C X.env) fp) tg (gTg X.K t))
    (ht : ∀ (s : Shared) (H : Hp) (C : Addr) (cl : List (Str × Addr)) (fp : List Addr), PTs (X.blk s H scope (compEnvC scope cl C X.env) fp) ifs (tB' X.K Z0 rc))
    (he : ∀ (s : Shared) (H : Hp) (C : Addr) (cl : List (Str × Addr)) (fp : List Addr), PE (X.blk s H scope (compEnvC scope cl C X.env) fp) elt (tE X.K Z0 ce re))
    (hs : ∀ x, foldedSetIterable iter X.env x = pure x) :
    PE X (.ListComp elt [⟨tg, iter, ifs, 0⟩] scope pos) (tE X.K Z (ce.arg .clean) fun env => (ri env).bind fun ds => (compD (turnD t rc re env) ds).bind fun xs => .ok (.lst xs)) :=
  pe_mono_len (pe_lc hc nd hi bk hg ht he hs) fun σ H Q hl q => comp_red hl hs1 hs2 (tEC_of (arg_ne _) q)
/-- name = [..]: its own statement in the model -/
theorem ps_setLcD {i : Nat} {y : Str} {py spos : Pos} {D' : Ends → L2.St → Hp → Prop} (hc : X.calm = true) (nd : X.N.Nodup) (hy : X.N[i]? = some y) (hyl : X.env.scope.names.lookup y = some .local)
    (hsw : swapsWith (.ListComp elt [⟨tg, iter, ifs, 0⟩] scope pos) (some (.Name y py)) spos.line X.env = pure true) (hi : PI X tg iter (tI X.K Z ci ri)) (bk : BlkOk X.N X.env.scope scope own)
    (hs1 : ∀ i ∈ slT t, ∃ p ∈ own, p.2 = i) (hs2 : ∀ p ∈ own, X.N[p.2]? = some p.1 ∧ p.2 ∈ slT t)
    (hg : ∀ (s : Shared) (H : Hp) (C : Addr) (cl : List (Str × Addr)) (fp : List Addr), PG (X.blk s H scope (compEnvC scope cl C X.env) fp) tg (gTg X.K t))
    (ht : ∀ (s : Shared) (H : Hp) (C : Addr) (cl : List (Str × Addr)) (fp : List Addr), PTs (X.blk s H scope (compEnvC scope cl C X.env) fp) ifs (tB' X.K Z0 rc))
    (he : ∀ (s : Shared) (H : Hp) (C : Addr) (cl : List (Str × Addr)) (fp : List Addr), PE (X.blk s H scope (compEnvC scope cl C X.env) fp) elt (tE X.K Z0 ce re))
    (hs : ∀ x, foldedSetIterable iter X.env x = pure x) :
    PS X (.Assign [.Name y py] (.ListComp elt [⟨tg, iter, ifs, 0⟩] scope pos) spos) (tAsg (tE X.K Z (ce.arg .clean) fun env => (ri env).bind fun ds => (compD (turnD t rc re env) ds).bind fun xs => .ok (.lst xs)) (gName i)) :=
  ps_mono_len (ps_setLc hc nd hy hyl hsw hi bk hg ht he hs) fun D σ H hl q => comp_red hl hs1 hs2 (tEC_of (arg_ne _) q)
end
end TQ

/-! DS11: the text's defs as calls; what a translated expression tells. -/
namespace TQ
open PySem PySem.Spec PyProof.Rows L2

/-- a text: its defs by ids, what its exceptions are -/
structure Wd where
  P : Program
  w : World
  K : PySem.W.Frag
  mg : Str → Option Value
  base : Heap
  T : Nat → Option Fn
  XR : Hp → Value → Option Addr → List Nat → List D → Prop
def ZW (XR : Hp → Value → Option Addr → List Nat → List D → Prop) (W : WX) : Zt := fun σ H c as => ∀ cls dd H', Ext H H' → XR H' cls dd c as → W cls dd σ H'
theorem ZW.mono {XR : Hp → Value → Option Addr → List Nat → List D → Prop} {W : WX} : ZMono (ZW XR W) := fun σ H H' c as x z cls dd H2 x2 r => z cls dd H2 (x.trans x2) r
/-- a def's promise: what n calls within one another tell -/
def spF (G : Wd) (n f : Nat) : Sp := fun vs H Q E => ∃ (h : Addr → Prop) (args : List D), (∀ a, h a → H a ≠ none) ∧ Reps G.K (hide h H) vs args ∧
  Post (callN G.T n f args) (fun d => ∀ v H', Ext H H' → Rep G.K (hide h H') v d → Q v H') (fun c as => ∀ cls dd H', Ext H H' → G.XR H' cls dd c as → E cls dd H')
structure WdOk (G : Wd) (C : TC) (n : Nat) : Prop where
  fn : ∀ x f, C.nm.lookup x = some f → ∃ (a : Addr) (fd : FuncData) (ps : List Str), G.mg x = some (.ref a) ∧ PySem.W.keepIn G.K (.ref a) = true ∧ Binds G.K fd ps [] ∧ FnOk G.P G.w G.K G.mg G.base (L2.CX G.P G.w) n a fd ps (spF G n f)
  cn : ∀ x d, C.cm.lookup x = some d → ∃ (u : Value) (v : V), G.mg x = some u ∧ RelV v u ∧ ∀ H, Rep G.K H v d
  fr : ∀ x ∈ C.fr, G.mg x = none
/-- where an expression stands -/
structure At (G : Wd) (C : TC) (n : Nat) (N : List Str) (W : WX) (X : Cx) (sc : Scope) : Prop where
  eP : X.prog = G.P
  eW : X.w = G.w
  eK : X.K = G.K
  eM : X.mg = G.mg
  eB : X.base = G.base
  eN : X.N = N
  nd : N.Nodup
  esc : X.env.scope = sc
  calm : X.calm = true
  room : Room n X.A
  tk : Takes X W
  wd : WdOk G C n
section
variable {G : Wd} {C : TC} {n : Nat} {N : List Str} {W : WX} {X : Cx} {sc : Scope}
theorem At.hu (a : At G C n N W X sc) : X.A.units + 64 < cLine := a.room.units
theorem At.hu1 (a : At G C n N W X sc) : X.A.units + 1 < cLine := hu_of a.room
theorem At.gl (a : At G C n N W X sc) {x : Str} (h : isGl sc x = true) : Gl X x := by
  unfold isGl at h
  rw [fl_eq] at h
  show X.env.scope.names.lookup x = some .globalImplicit
  rw [a.esc]
  split at h <;> first | assumption | cases h
theorem At.vis (a : At G C n N W X sc) {x : Str} (h : isVis sc x = true) : Vis X.env.scope x := by
  unfold isVis at h
  rw [fl_eq] at h
  unfold Vis
  rw [a.esc]
  split at h
  · exact .inl (by assumption)
  · exact .inr (.inl (by assumption))
  · exact .inr (.inr (by assumption))
  · cases h

/-! ### trees that may stand as parts -/
theorem okE_star {e : Expr} (h : okE e = true) (es : List Expr) (env : PySem.Env) : starEach (e :: es) env = (false, eval e env) :: starEach es env := by
  cases e <;> first | rfl | cases h
theorem okE_ix {e : Expr} (h : okE e = true) : PlainIx e := by
  intro o i
  cases e <;> first | rfl | cases h
theorem okE_mark {e : Expr} (h : okE e = true) (op : CmpOp) : behindInMarks op e = false := by
  cases e <;> first | rfl | cases h
theorem okE_fold {e : Expr} (h : okE e = true) (env : PySem.Env) (x : Value) : foldedSetIterable e env x = pure x := by
  cases e <;> first | rfl | cases h
theorem okE_base {e : Expr} (h : okE e = true) (m : Str) (env : PySem.Env) : attributeBase e m env (eval e env) = eval e env := by
  cases e with
  | Call f as kw pos =>
    cases f <;> cases as <;> first | rfl | cases h
  | _ => first | rfl | cases h
/-- a tree whose test is its value's truth -/
def plainT : Expr → Bool
  | .UnaryOp .Not .. => false
  | .BoolOp .. => false
  | .IfExp .. => false
  | .Compare .. => false
  | _ => true
theorem plainT_ok {e : Expr} (h : plainT e = true) (env : PySem.Env) (whole : Sem Value) : isTrue e env whole = (do let v ← whole; standAt e.pos; holding [v] (truthy v)) := by
  cases e with
  | UnaryOp op a pos => cases op <;> first | rfl | cases h
  | _ => first | rfl | cases h

/-! ### calls of the text's own -/
theorem pe_callF {f : Nat} {x : Str} {p pos : Pos} {e : Expr} {es : List Expr} {c : Cls} {rs : Env → R (List D)} (a : At G C n N W X sc) (hf : C.nm.lookup x = some f) (hg : Gl X x) (hdb : (x == ("__debug__" : Str)) = false)
    (hc : c ≠ .top) (ha : PA X (e :: es) (tAs X.K (ZW G.XR W) c rs)) (he : starEach (e :: es) X.env = (false, eval e X.env) :: starEach es X.env) (hpl : (backTo pos (starEach es X.env)).any (·.1) = false) :
    PE X (.Call (.Name x p) (e :: es) [] pos) (tE X.K (ZW G.XR W) c fun env => (rs env).bind fun ds => callN G.T n f ds) := by
  obtain ⟨fa, fd, ps, hm, hk, hb, F⟩ := a.wd.fn x f hf
  rw [← a.eP, ← a.eW, ← a.eK, ← a.eM, ← a.eB] at F
  rw [← a.eK] at hk hb
  refine pe_mono (pe_callS (E := WE W) F a.room hg (by rw [a.eM]; exact hm) hk hb (passAt a.tk) ha hdb he hpl) fun σ H Q q => ?_
  obtain ⟨O, env, en, q⟩ := q
  refine ⟨O, env, en, (Post.bind q).imp (fun ds _ q vs H1 x1 r => ?_) fun _ _ z => z⟩
  have fin : ∀ (h : Addr → Prop), (∀ H', under c O H' = hide h H') → (∀ a, h a → H1 a ≠ none) → spF G n f vs H1 Q (WE W σ) := fun h hh ho => by
    refine ⟨h, ds, ho, by rw [← hh, ← a.eK]; exact r, Post.imp q (fun d _ q v H' x2 rv => q v H' (x1.trans x2) (RepC.of_u hc ?_)) fun c as z cls dd H' x2 xr => z cls dd H' (x1.trans x2) xr⟩
    rw [hh, a.eK]; exact rv
  have ok1 := en.ok.ext x1
  cases c with
  | clean => exact fin O.o (fun _ => rfl) ok1
  | top => exact absurd rfl hc
  | leaky => exact fin O.b (fun _ => rfl) fun b hb => ok1 b (O.le b hb)

/-! ### join -/
theorem TLjoin (s : List Nat) : ∀ ss : List (List Nat), TL.joinL s ss = joinL s ss
  | [] => rfl
  | [_] => rfl
  | x :: y :: r => by
    show x ++ (s ++ TL.joinL s (y :: r)) = x ++ (s ++ joinL s (y :: r))
    rw [TLjoin s (y :: r)]
theorem joinL_len (s : List Nat) : ∀ ss : List (List Nat), (joinL s ss).length ≤ (ss.map List.length).sum + ss.length * s.length
  | [] => Nat.zero_le _
  | [x] => by show x.length ≤ x.length + 0 + 1 * s.length; omega
  | x :: y :: r => by
    have := joinL_len s (y :: r)
    show (x ++ (s ++ joinL s (y :: r))).length ≤ _
    simp only [List.length_append, List.map_cons, List.sum_cons, List.length_cons, Nat.add_mul, Nat.one_mul] at this ⊢
    omega
theorem joinL_mem (s : List Nat) : ∀ (ss : List (List Nat)) (c : Nat), c ∈ joinL s ss → c ∈ s ∨ ∃ x ∈ ss, c ∈ x
  | [], c, h => by cases h
  | [x], c, h => .inr ⟨x, List.mem_singleton.mpr rfl, h⟩
  | x :: y :: r, c, h => by
    rcases List.mem_append.mp (show c ∈ x ++ (s ++ joinL s (y :: r)) from h) with h | h
    · exact .inr ⟨x, List.mem_cons_self, h⟩
    · rcases List.mem_append.mp h with h | h
      · exact .inl h
      · rcases joinL_mem s (y :: r) c h with h | ⟨z, hz, h⟩
        · exact .inl h
        · exact .inr ⟨z, List.mem_cons_of_mem _ hz, h⟩
theorem join_toS (s : List Nat) (ss : List (List Nat)) : Txt.join (toS s) (ss.map toS) = toS (joinL s ss) := by
  refine TL.ext_tl ?_
  rw [TL.join_eq, TL.tl_join, List.map_map]
  have : (ss.map (TL.tl ∘ toS)) = ss := by
    rw [show (TL.tl ∘ toS) = id from by funext x; rfl, List.map_id]
  rw [this, TLjoin]
theorem noX_join (d e : D) : NoX (joinD d e) := by
  cases d <;> cases e <;> simp only [joinD] <;> first | exact .bad | exact .ofO fun _ => .ite .ok .bad
theorem pe_joinD {a b : Expr} {ca cb : Cls} {ra rb : Env → R D} {Z : Zt} {apos pos : Pos} (hz : ZMono Z) (ha : PE X a (tE X.K Z ca ra)) (hb : PE X b (tE X.K Z cb rb)) (hbase : attributeBase a "join" X.env (eval a X.env) = eval a X.env) (hst : starEach [b] X.env = (false, eval b X.env) :: starEach [] X.env)
    (hline : (apos.endLine == pos.line) = true) : PE X (.Call (.Attribute a "join" apos) [b] [] pos) (tE X.K Z .clean fun env => (ra env).bind fun x => (preM x .join).bind fun _ => (rb env).bind fun y => joinD x y) := by
  refine pe_mono (pe_bm PySem.F.plainAttrs_str PySem.F.slot_str_join PySem.F.type_str_join mt_join ha (pa_cons hb pa_nil hst) hbase (by rw [hst]; rfl) hline hst rfl) fun σ H Q q => ?_
  obtain ⟨O, env, en, q⟩ := q
  refine tE_then (f := fun env x => (preM x .join).bind fun _ => (rb env).bind fun y => joinD x y) hz en q fun d v H1 ed x1 e1 r1 h1 => ?_
  have isS : ∃ s, d = .str s := by
    cases d with
    | str s => exact ⟨s, rfl⟩
    | _ => exact h1.elim
  obtain ⟨s, rfl⟩ := isS
  obtain ⟨rfl, os⟩ := r1.str
  refine ⟨rfl, ?_⟩
  refine tE_then (f := fun _ y => joinD (.str s) y) hz e1 h1 fun d2 v2 H2 ed2 x2 e2 r2 h2 => ?_
  obtain ⟨d', ed', q⟩ := h2.of_noX (noX_join _ _)
  cases d2 <;> simp only [joinD] at ed' <;> try contradiction
  obtain ⟨ss, h3, h4⟩ := ofO_ok ed'
  split at h4
  · rename_i hl
    cases h4
    obtain ⟨p, vs, rfl, hx, rvs⟩ := r2.lst
    obtain ⟨ev, oks⟩ := rvs.strs h3
    subst ev
    refine ⟨toS s, p, ss.map toS, rfl, rfl, .inl (SqL.of (by rw [List.map_map]; exact hx)), ?_, ?_⟩
    · have : ((ss.map toS).map (·.length)).sum = (ss.map List.length).sum := by
        rw [List.map_map]; congr 1; first | done | exact List.map_congr_left fun x _ => toS_length x
      rw [this, List.length_map, toS_length]; exact hl
    · rw [join_toS]
      refine q _ H2 (x1.trans x2) (.mkS ⟨Nat.le_trans (joinL_len s ss) hl, fun c hc => ?_⟩)
      rcases joinL_mem s ss c hc with h | ⟨z, hz, h⟩
      · exact os.2 c h
      · exact (oks z hz).2 c h
  · cases h4
end
end TQ

/-! DS12: a translated expression tells what its translation is evaluated to. -/
namespace TQ
open PySem PySem.Spec PyProof.Rows L2

section
variable {G : Wd} {C : TC} {T : TD} {n : Nat} {W : WX} {X : Cx} {sc : Scope}
abbrev FF (G : Wd) (n : Nat) : Nat → List D → R D := callN G.T n
/-- what is shown of an expression -/
structure Told (G : Wd) (n : Nat) (W : WX) (X : Cx) (e : Expr) (E : E) : Prop where
  ok : okE e = true
  pe : PE X e (tE X.K (ZW G.XR W) (clE E) (evE (FF G n) E))
  pt : PT X e (tB' X.K (ZW G.XR W) fun env => (evE (FF G n) E env).bind truthD)
theorem Told.plain {e : Expr} {E : E} (ok : okE e = true) (pl : plainT e = true) (pe : PE X e (tE X.K (ZW G.XR W) (clE E) (evE (FF G n) E))) : Told G n W X e E :=
  ⟨ok, pe, pt_any pe (plainT_ok pl X.env)⟩

/-! ### lists of expressions -/
def lenE : Es → Nat
  | .nil => 0
  | .cons _ es => lenE es + 1
theorem evEs_len {F : Nat → List D → R D} : ∀ {es : Es} {env : Env} {ds : List D}, evEs F es env = .ok ds → ds.length = lenE es
  | .nil, env, ds, h => by cases h; rfl
  | .cons e es, env, ds, h => by
    obtain ⟨d, h1, h⟩ := R.bind_eq_ok (show (evE F e env).bind (fun d => (evEs F es env).bind fun ds => .ok (d :: ds)) = .ok ds from h)
    obtain ⟨r, h2, h⟩ := R.bind_eq_ok h
    cases h
    show r.length + 1 = lenE es + 1
    rw [evEs_len h2]
theorem trL_ok {f : Expr → Option E} : ∀ {es : List Expr} {Es' : Es}, trL f es = some Es' → (∀ e ∈ es, ∀ E, f e = some E → Told G n W X e E) →
    PA X es (tAs X.K (ZW G.XR W) (clEs Es') (evEs (FF G n) Es')) ∧ lenE Es' = es.length ∧ (es.all okE = true)
  | [], _, h, _ => by cases h; exact ⟨pa_nilD, rfl, rfl⟩
  | e :: es, Es', h, ih => by
    obtain ⟨a, h1, h⟩ := Option.bind_eq_some_iff.mp (show (f e).bind (fun a => (trL f es).bind fun as => some (Es.cons a as)) = some Es' from h)
    obtain ⟨as, h2, h⟩ := Option.bind_eq_some_iff.mp h
    cases h
    have ta := ih e List.mem_cons_self a h1
    obtain ⟨q1, q2, q3⟩ := trL_ok h2 fun e he => ih e (List.mem_cons_of_mem _ he)
    exact ⟨pa_consD ZW.mono (clEs_ne as) ta.pe q1 (okE_star ta.ok es X.env), by show _ + 1 = _ + 1; rw [q2], by rw [List.all_cons, ta.ok, q3]; rfl⟩
theorem starAll : ∀ (es : List Expr) (env : PySem.Env) (pos : Pos), es.all okE = true → (backTo pos (starEach es env)).any (·.1) = false
  | [], _, _, _ => rfl
  | e :: es, env, pos, h => by
    rw [List.all_cons, Bool.and_eq_true] at h
    rw [okE_star h.1]
    show (false || (backTo pos (starEach es env)).any (·.1)) = false
    rw [starAll es env pos h.2]; rfl

/-! ### and, or -/
theorem and_ok {pos : Pos} {f : Expr → Option E} : ∀ {es : List Expr} {Es' : Es} {E : E}, trL f es = some Es' → andE (listE Es') = some E → (∀ e ∈ es, ∀ E, f e = some E → Told G n W X e E) →
    PE X (.BoolOp .And es pos) (tE X.K (ZW G.XR W) (clE E) (evE (FF G n) E)) ∧ PW X (.BoolOp .And es pos) (tB' X.K (ZW G.XR W) fun env => (evE (FF G n) E env).bind truthD)
  | [], _, _, h, h', _ => by cases h; cases h'
  | [e], Es', E, h, h', ih => by
    obtain ⟨a, h1, h⟩ := Option.bind_eq_some_iff.mp (show (f e).bind (fun a => (trL f []).bind fun as => some (Es.cons a as)) = some Es' from h)
    cases h; cases h'
    have ta := ih e List.mem_cons_self _ h1
    exact ⟨pe_one ta.pe, pw_and1 ta.pt⟩
  | e :: e2 :: es, Es', E, h, h', ih => by
    obtain ⟨a, h1, h⟩ := Option.bind_eq_some_iff.mp (show (f e).bind (fun a => (trL f (e2 :: es)).bind fun as => some (Es.cons a as)) = some Es' from h)
    obtain ⟨as, h2, h⟩ := Option.bind_eq_some_iff.mp h
    obtain rfl := Option.some.inj h
    have ta := ih e List.mem_cons_self a h1
    obtain ⟨b, h3, h⟩ := Option.bind_eq_some_iff.mp (show (f e2).bind (fun a => (trL f es).bind fun as => some (Es.cons a as)) = some as from h2)
    obtain ⟨bs, h4, h⟩ := Option.bind_eq_some_iff.mp h
    obtain rfl := Option.some.inj h
    have h' : (andE (listE (.cons b bs))).map (TQ.E.and a) = some E := h'
    obtain ⟨E2, h5, rfl⟩ := Option.map_eq_some_iff.mp h'
    obtain ⟨q1, q2⟩ := and_ok (pos := pos) h2 h5 fun e he => ih e (List.mem_cons_of_mem _ he)
    exact ⟨pe_andD ZW.mono ta.pe q1, pw_andD ZW.mono ta.pt q2⟩
theorem or_ok {pos : Pos} {f : Expr → Option E} : ∀ {es : List Expr} {Es' : Es} {E : E}, trL f es = some Es' → orE (listE Es') = some E → (∀ e ∈ es, ∀ E, f e = some E → Told G n W X e E) →
    PE X (.BoolOp .Or es pos) (tE X.K (ZW G.XR W) (clE E) (evE (FF G n) E)) ∧ PW X (.BoolOp .Or es pos) (tB' X.K (ZW G.XR W) fun env => (evE (FF G n) E env).bind truthD)
  | [], _, _, h, h', _ => by cases h; cases h'
  | [e], Es', E, h, h', ih => by
    obtain ⟨a, h1, h⟩ := Option.bind_eq_some_iff.mp (show (f e).bind (fun a => (trL f []).bind fun as => some (Es.cons a as)) = some Es' from h)
    cases h; cases h'
    have ta := ih e List.mem_cons_self _ h1
    exact ⟨pe_one ta.pe, pw_or1 ta.pt⟩
  | e :: e2 :: es, Es', E, h, h', ih => by
    obtain ⟨a, h1, h⟩ := Option.bind_eq_some_iff.mp (show (f e).bind (fun a => (trL f (e2 :: es)).bind fun as => some (Es.cons a as)) = some Es' from h)
    obtain ⟨as, h2, h⟩ := Option.bind_eq_some_iff.mp h
    obtain rfl := Option.some.inj h
    have ta := ih e List.mem_cons_self a h1
    obtain ⟨b, h3, h⟩ := Option.bind_eq_some_iff.mp (show (f e2).bind (fun a => (trL f es).bind fun as => some (Es.cons a as)) = some as from h2)
    obtain ⟨bs, h4, h⟩ := Option.bind_eq_some_iff.mp h
    obtain rfl := Option.some.inj h
    have h' : (orE (listE (.cons b bs))).map (TQ.E.or a) = some E := h'
    obtain ⟨E2, h5, rfl⟩ := Option.map_eq_some_iff.mp h'
    obtain ⟨q1, q2⟩ := or_ok (pos := pos) h2 h5 fun e he => ih e (List.mem_cons_of_mem _ he)
    exact ⟨pe_orD ZW.mono ta.pe q1, pw_orD ZW.mono ta.pt q2⟩

/-! ### constants -/
theorem const_ok {c : Const} {d : D} {k : Nat} {pos : Pos} {Z : Zt} (h : constD c = some d) : PE X (.Constant c k pos) (tE X.K Z .clean fun _ => .ok d) := by
  cases c <;> simp only [constD] at h <;> try contradiction
  · cases h; exact pe_mono pe_non fun σ H Q q => tE_const (fun _ => .non) q
  · cases h; exact pe_mono pe_bl fun σ H Q q => tE_const (fun _ => .bl _) q
  · cases h; exact pe_mono pe_int fun σ H Q q => tE_const (fun _ => .int _) q
  · rename_i s
    split at h
    · rename_i hc
      cases h
      simp only [Bool.and_eq_true, List.all_eq_true, decide_eq_true_eq] at hc
      refine pe_mono pe_str fun σ H Q q => ?_
      have e : s = toS s.cps.toList := Str.ext' rfl
      have := tE_const (K := X.K) (v := .str (toS s.cps.toList)) (fun _ => .str ⟨hc.2, hc.1⟩) q
      rw [← e] at this
      exact this
    · cases h

/-! ### operators by name -/
theorem binO_ok {op : Operator} {o : O2} (h : binO op = some o) : BinOk X op (do2 o) ∧ (∀ d e, NoX (do2 o d e)) ∧ ∀ a b, clE (.op2 o a b) = (clE a).join (clE b) := by
  cases op <;> simp only [binO] at h <;> try contradiction
  · cases h; exact ⟨b_add, noX_add, fun _ _ => rfl⟩
  · cases h; exact ⟨b_sub, noX_sub, fun _ _ => rfl⟩
  · cases h; exact ⟨b_mul, noX_mul, fun _ _ => rfl⟩
  · cases h; exact ⟨b_mod, noX_mod, fun _ _ => rfl⟩
  · cases h; exact ⟨b_pow, noX_pow, fun _ _ => rfl⟩
  · cases h; exact ⟨b_fdiv, noX_fdiv, fun _ _ => rfl⟩
theorem lt_bl (d e r : D) (h : ltD d e = .ok r) : ∃ k, r = .bl k := by
  cases d <;> cases e <;> simp only [ltD] at h <;> try contradiction
  all_goals (cases h; exact ⟨_, rfl⟩)
theorem le_bl (d e r : D) (h : leD d e = .ok r) : ∃ k, r = .bl k := by
  cases d <;> cases e <;> simp only [leD] at h <;> try contradiction
  all_goals (cases h; exact ⟨_, rfl⟩)
theorem is_bl' (d e r : D) (h : isD d e = .ok r) : ∃ k, r = .bl k := by
  cases e <;> simp only [isD] at h <;> try contradiction
  all_goals (cases h; exact ⟨_, rfl⟩)
theorem blR_bl {q : R Bool} {r : D} (h : blR q = .ok r) : ∃ k, r = .bl k := by
  obtain ⟨b, _, h⟩ := R.bind_eq_ok h
  cases h; exact ⟨_, rfl⟩
theorem nblR_bl {q : R Bool} {r : D} (h : nblR q = .ok r) : ∃ k, r = .bl k := by
  obtain ⟨b, _, h⟩ := R.bind_eq_ok h
  cases h; exact ⟨_, rfl⟩
theorem notR_bl {q : R D} {r : D} (h : notR q = .ok r) : ∃ k, r = .bl k := by
  obtain ⟨b, _, h⟩ := R.bind_eq_ok h
  cases b <;> first | (cases h; exact ⟨_, rfl⟩) | cases h
theorem cmpO_ok {op : CmpOp} {o : O2} (hu : X.A.units + 64 < cLine) (h : cmpO op = some o) : CmpOk X op (do2 o) ∧ (∀ d e, NoX (do2 o d e)) ∧ (∀ d e r, do2 o d e = .ok r → ∃ k, r = .bl k) ∧ ∀ a b, clE (.op2 o a b) = .clean := by
  cases op <;> simp only [cmpO] at h <;> try contradiction
  · cases h; exact ⟨c_eq hu, fun d e => noX_bl (noX_eq d e), fun d e r h => blR_bl h, fun _ _ => rfl⟩
  · cases h; exact ⟨c_ne hu, fun d e => noX_nbl (noX_eq d e), fun d e r h => nblR_bl h, fun _ _ => rfl⟩
  · cases h; exact ⟨c_lt, noX_lt, lt_bl, fun _ _ => rfl⟩
  · cases h; exact ⟨c_le, noX_le, le_bl, fun _ _ => rfl⟩
  · cases h; exact ⟨c_gt, fun d e => noX_lt e d, fun d e r h => lt_bl e d r h, fun _ _ => rfl⟩
  · cases h; exact ⟨c_ge, fun d e => noX_le e d, fun d e r h => le_bl e d r h, fun _ _ => rfl⟩
  · cases h; exact ⟨c_is, noX_is, is_bl', fun _ _ => rfl⟩
  · cases h; exact ⟨c_isnot, fun d e => noX_not (noX_is d e), fun d e r h => notR_bl h, fun _ _ => rfl⟩
  · cases h; exact ⟨c_in hu, fun d e => noX_bl (noX_in d e), fun d e r h => blR_bl h, fun _ _ => rfl⟩
  · cases h; exact ⟨c_notin hu, fun d e => noX_nbl (noX_in d e), fun d e r h => nblR_bl h, fun _ _ => rfl⟩

/-! ### builtins by name -/
theorem noX_len (d : D) : NoX (lenD d) := by cases d <;> simp only [lenD] <;> first | exact .ok | exact .bad
theorem noX_all (d : D) : NoX (allD d) := by cases d <;> simp only [allD] <;> first | exact .bad | exact .ofO fun _ => .ok
theorem noX_any (d : D) : NoX (anyD d) := by cases d <;> simp only [anyD] <;> first | exact .bad | exact .ofO fun _ => .ok
theorem noX_int (d : D) : NoX (intD d) := by cases d <;> simp only [intD] <;> first | exact .ok | exact .bad
theorem noX_list (d : D) : NoX (listD d) := by cases d <;> simp only [listD] <;> first | exact .ok | exact .bad
theorem noX_tuple (d : D) : NoX (tupleD d) := by cases d <;> simp only [tupleD] <;> first | exact .ok | exact .bad
theorem noX_sum (d : D) : NoX (sumD d) := by cases d <;> simp only [sumD] <;> first | exact .ok | exact .bad | exact .ofO fun _ => .ok
theorem noX_isi (t : Ty) (d : D) : NoX (isiD t d) := by cases d <;> simp only [isiD] <;> first | exact .ok | exact .bad
theorem noX_max2 (d e : D) : NoX (max2D d e) := by cases d <;> cases e <;> simp only [max2D] <;> first | exact .ok | exact .bad
theorem noX_min2 (d e : D) : NoX (min2D d e) := by cases d <;> cases e <;> simp only [min2D] <;> first | exact .ok | exact .bad
theorem bi1_ok {x : Str} {o : O1} {a : Expr} {p pos : Pos} {E : E} (hc : X.calm = true) (h : bi1 x = some o) (hg : Gl X x) (hm : X.mg x = none) (ta : Told G n W X a E) :
    PE X (.Call (.Name x p) [a] [] pos) (tE X.K (ZW G.XR W) (clE (.op1 o E)) (evE (FF G n) (.op1 o E))) := by
  have st := okE_star ta.ok [] X.env
  unfold bi1 at h
  split at h
  · rename_i e; have e := sEq_iff.mp e; subst e; cases h
    exact pe_b1 ZW.mono noX_len f_len hg hm (by decide +kernel) ta.pe (by decide) (by decide) st
  split at h
  · rename_i e; have e := sEq_iff.mp e; subst e; cases h
    exact pe_b1 ZW.mono noX_all (f_all hc) hg hm (by decide +kernel) ta.pe (by decide) (by decide) st
  split at h
  · rename_i e; have e := sEq_iff.mp e; subst e; cases h
    exact pe_b1 ZW.mono noX_any (f_any hc) hg hm (by decide +kernel) ta.pe (by decide) (by decide) st
  split at h
  · rename_i e; have e := sEq_iff.mp e; subst e; cases h
    exact pe_t1 ZW.mono noX_int f_int hg hm (by decide +kernel) ta.pe (by decide) (by decide) st
  split at h
  · rename_i e; have e := sEq_iff.mp e; subst e; cases h
    exact pe_t1 ZW.mono noX_list f_list hg hm (by decide +kernel) ta.pe (by decide) (by decide) st
  split at h
  · rename_i e; have e := sEq_iff.mp e; subst e; cases h
    exact pe_t1 ZW.mono noX_tuple f_tuple hg hm (by decide +kernel) ta.pe (by decide) (by decide) st
  split at h
  · rename_i e; have e := sEq_iff.mp e; subst e; cases h
    exact pe_b1 ZW.mono noX_sum (f_sum hc) hg hm (by decide +kernel) ta.pe (by decide) (by decide) st
  · cases h
theorem bi2_ok {x : Str} {o : O2} {a b : Expr} {p pos : Pos} {Ea Eb : E} (hc : X.calm = true) (h : bi2 x = some o) (hg : Gl X x) (hm : X.mg x = none) (ta : Told G n W X a Ea) (tb : Told G n W X b Eb) :
    PE X (.Call (.Name x p) [a, b] [] pos) (tE X.K (ZW G.XR W) (clE (.op2 o Ea Eb)) (evE (FF G n) (.op2 o Ea Eb))) := by
  have st := okE_star ta.ok [b] X.env
  have st2 := okE_star tb.ok [] X.env
  unfold bi2 at h
  split at h
  · rename_i e; have e := sEq_iff.mp e; subst e; cases h
    exact pe_b2 ZW.mono noX_max2 (f_max2 hc) hg hm (by decide +kernel) ta.pe tb.pe (by decide) (by decide) st st2
  split at h
  · rename_i e; have e := sEq_iff.mp e; subst e; cases h
    exact pe_b2 ZW.mono noX_min2 (f_min2 hc) hg hm (by decide +kernel) ta.pe tb.pe (by decide) (by decide) st st2
  · cases h
theorem tyO_ok {x : Str} {t : Ty} (h : tyO x = some t) : bootBuiltins x = some (.type (tyName t)) ∧ x ≠ "__name__" ∧ (x == ("__debug__" : Str)) = false := by
  unfold tyO at h
  split at h
  · rename_i e; have e := sEq_iff.mp e; subst e; cases h; exact ⟨by decide +kernel, by decide, by decide⟩
  split at h
  · rename_i e; have e := sEq_iff.mp e; subst e; cases h; exact ⟨by decide +kernel, by decide, by decide⟩
  split at h
  · rename_i e; have e := sEq_iff.mp e; subst e; cases h; exact ⟨by decide +kernel, by decide, by decide⟩
  split at h
  · rename_i e; have e := sEq_iff.mp e; subst e; cases h; exact ⟨by decide +kernel, by decide, by decide⟩
  split at h
  · rename_i e; have e := sEq_iff.mp e; subst e; cases h; exact ⟨by decide +kernel, by decide, by decide⟩
  · cases h
end
end TQ

/-! DS13: the translation of expressions is right. -/
namespace TQ
open PySem PySem.Spec PyProof.Rows L2

theorem pt_ifExp {X : Cx} {c a b : Expr} {pos : Pos} {tc ta tb : TT} (hc : PT X c tc) (ha : PT X a ta) (hb : PT X b tb) : PT X (.IfExp c a b pos) (fun σ H Q => tc σ H fun k H1 => if k = true then ta σ H1 Q else tb σ H1 Q) := by
  refine ⟨fun pins s σ H Q I h => ?_⟩
  show wpAny (model X.prog X.w) X.A (isTrue c X.env (eval c X.env) >>= fun t => if t = true then isTrue a X.env (eval a X.env) else isTrue b X.env (eval b X.env)) _ _ s
  refine wpAny_bind (thn (hc.run pins s σ H _ I h) fun d s1 ⟨H1, I1, q1⟩ => ?_)
  cases d with
  | true => exact ha.run pins s1 σ H1 Q I1 q1
  | false => exact hb.run pins s1 σ H1 Q I1 q1
theorem pt_iteD {X : Cx} {Z : Zt} {c a b : Expr} {pos : Pos} {rc ra rb : Env → R D} (hz : ZMono Z) (hc : PT X c (tB' X.K Z fun env => (rc env).bind truthD)) (ha : PT X a (tB' X.K Z fun env => (ra env).bind truthD)) (hb : PT X b (tB' X.K Z fun env => (rb env).bind truthD)) :
    PT X (.IfExp c a b pos) (tB' X.K Z fun env => ((rc env).bind fun x => (truthD x).bind fun t => if t then ra env else rb env).bind truthD) := by
  refine pt_mono (pt_ifExp hc ha hb) fun σ H Q q => ?_
  obtain ⟨O, env, e, h⟩ := q
  have h : Post (((rc env).bind truthD).bind fun t => (if t then ra env else rb env).bind truthD) (fun b => ∀ H', Ext H H' → Q b H') (Z σ H) := by
    have e : (((rc env).bind fun x => (truthD x).bind fun t => if t then ra env else rb env).bind truthD) = ((rc env).bind truthD).bind fun t => (if t then ra env else rb env).bind truthD := by
      rw [R.bind_assoc, R.bind_assoc]; congr 1; funext x; rw [R.bind_assoc]
    rw [← e]; exact h
  refine ⟨O, env, e, (Post.bind h).imp (fun k _ hk H1 x1 => ?_) fun _ _ z => z⟩
  cases k with
  | true => exact ⟨O, env, e.mono x1, Post.imp hk (fun b _ q H' x => q H' (x1.trans x)) fun c as z => hz _ _ _ _ _ x1 z⟩
  | false => exact ⟨O, env, e.mono x1, Post.imp hk (fun b _ q H' x => q H' (x1.trans x)) fun c as z => hz _ _ _ _ _ x1 z⟩
theorem takesF {X : Cx} : Takes X (fun _ _ _ _ => False) := fun _ _ x => by
  obtain ⟨_, _, _, _, _, _, _, _, _, _, _, _, _, _, _, _, w⟩ := x
  exact w.elim
section
variable {G : Wd} {C : TC} {T : TD} {n : Nat} {W : WX} {X : Cx} {sc scope : Scope}
/-- within a comprehension's block -/
theorem At.blk (a : At G C n T.N W X sc) (s : Shared) (H : Hp) (cl : List (Str × Addr)) (D : Addr) (fp : List Addr) :
    At G C n T.N (fun _ _ _ _ => False) (X.blk s H scope (compEnvC scope cl D X.env) fp) (relT scope sc) :=
  ⟨a.eP, a.eW, a.eK, a.eM, a.eB, a.eN, a.nd, by rw [← a.esc]; rfl, a.calm, a.room, takesF, a.wd⟩
theorem kEq_ok {a b : NameKind} (h : kEq a b = true) : a = b := by cases a <;> cases b <;> first | rfl | cases h
theorem blkB_ok {N : List Str} {own : List (Str × Nat)} (h : blkB N sc scope own = true) (hi : ∀ p ∈ own, N[p.2]? = some p.1) : BlkOk N sc scope own := by
  unfold blkB at h
  rw [Bool.and_eq_true, List.all_eq_true] at h
  obtain ⟨h0, h⟩ := h
  have key : ∀ y ∈ scope.names, scope.names.lookup y.1 = some y.2 ∧ (y.2 = .free → isCF sc y.1 = true) ∧ (isOwn y.2 = true → memS y.1 (own.map (·.1)) = true ∨ memS y.1 N = false) := fun y hy => by
    have := h y hy
    rw [Bool.and_eq_true, Bool.and_eq_true] at this
    obtain ⟨⟨a, b⟩, c⟩ := this
    refine ⟨?_, fun e => ?_, fun e => ?_⟩
    · rw [fl_eq] at a
      cases q : scope.names.lookup y.1 with
      | none => rw [q] at a; cases a
      | some k => rw [q] at a; rw [kEq_ok a]
    · rw [e] at b; simpa [isFree] using b
    · rw [e] at c; simpa using c
  refine ⟨?_, fun y hy => (key y hy).1, hi, fun y hy e => ?_, fun y hy e => ?_⟩
  · revert h0; unfold isFunc; split <;> intro h0 <;> first | assumption | cases h0
  · have := (key y hy).2.1 e
    unfold isCF at this
    rw [fl_eq] at this
    split at this
    · exact .inl (by assumption)
    · exact .inr (by assumption)
    · cases this
  · rcases (key y hy).2.2 (by rcases e with e | e <;> rw [e] <;> rfl) with q | q
    · exact .inl (memS_ok q)
    · refine .inr fun m => ?_
      have : ∀ (l : List Str) (x : Str), x ∈ l → memS x l = true := by
        intro l x
        induction l with
        | nil => intro m; cases m
        | cons z r ih =>
          intro m
          show (sEq z x || memS x r) = true
          rcases List.mem_cons.mp m with e | m
          · rw [e, sEq_iff.mpr rfl]; rfl
          · rw [ih m, Bool.or_true]
      rw [this N y.1 m] at q; cases q
theorem storeOk_ok {x : Str} {s : Shared} {H : Hp} {cl : List (Str × Addr)} {D : Addr} {fp : List Addr} (h : storeOk scope x = true) : StOk (X.blk s H scope (compEnvC scope cl D X.env) fp) x := by
  unfold storeOk at h
  rw [fl_eq] at h
  split at h
  · rename_i q
    have := lookup_relS_keep (sc := X.env.scope) (k := .local) (by decide) q
    exact ⟨.inl this, .inr this⟩
  · rename_i q
    have := lookup_relS_keep (sc := X.env.scope) (k := .cell) (by decide) q
    refine ⟨.inr this, .inl ?_⟩
    show (scope.names.lookup x == some .cell) = true
    rw [q]; rfl
  · cases h

/-- a walk's source -/
theorem trI_ok {f : Expr → Option E} {e tg : Expr} {it : I} (a : At G C n T.N W X sc) (h : trI C f sc e = some it) (ih : ∀ e E, f e = some E → Told G n W X e E) (hc : notLeaky (clI it) = true) :
    PI X tg e (tI X.K (ZW G.XR W) (clI it) (evI (FF G n) it)) ∧ okE e = true := by
  have base : ∀ {it}, (f e).map I.of = some it → notLeaky (clI it) = true → PI X tg e (tI X.K (ZW G.XR W) (clI it) (evI (FF G n) it)) ∧ okE e = true := fun {it} h hc => by
    obtain ⟨E, h1, rfl⟩ := Option.map_eq_some_iff.mp h
    have t := ih e E h1
    exact ⟨pi_of t.pe (fun q => by have hc : notLeaky (clE E) = true := hc; have q : clE E = .leaky := q; rw [q] at hc; cases hc), t.ok⟩
  unfold trI at h
  split at h
  · rename_i x p e1 pos
    split at h
    · rename_i hx
      simp only [Bool.and_eq_true] at hx
      obtain ⟨E, h1, rfl⟩ := Option.map_eq_some_iff.mp h
      have t := ih e1 E h1
      exact ⟨pi_rng1 (sEq_iff.mp hx.2) ZW.mono (a.gl hx.1.1) (by rw [a.eM]; exact a.wd.fr x (memS_ok hx.1.2)) t.pe (okE_star t.ok [] X.env), rfl⟩
    · exact base h hc
  · rename_i x p e1 e2 pos
    split at h
    · rename_i hx
      simp only [Bool.and_eq_true] at hx
      obtain ⟨E1, h1, h⟩ := Option.bind_eq_some_iff.mp h
      obtain ⟨E2, h2, rfl⟩ := Option.map_eq_some_iff.mp h
      have t := ih e1 E1 h1
      have t2 := ih e2 E2 h2
      exact ⟨pi_rng2 (sEq_iff.mp hx.2) ZW.mono (a.gl hx.1.1) (by rw [a.eM]; exact a.wd.fr x (memS_ok hx.1.2)) t.pe t2.pe (okE_star t.ok [e2] X.env) (okE_star t2.ok [] X.env), rfl⟩
    · exact base h hc
  · exact base h hc

theorem mvE_var {i : Nat} : PE X (.Name x pos) (tVar i) → PE X (.Name x pos) (tE X.K (ZW G.XR W) (clE (mvE T.mu i)) (evE (FF G n) (mvE T.mu i))) := fun h => by
  unfold mvE
  split
  · exact pe_mono h fun σ H Q q => tE_mvar q
  · exact pe_mono h fun σ H Q q => tE_var q

theorem tr_ok : ∀ (k : Nat) (sc : Scope) (W : WX) (X : Cx) (e : Expr) (E : E), At G C n T.N W X sc → tr C T k sc e = some E → Told G n W X e E
  | 0, _, _, _, _, _, _, h => by cases h
  | k + 1, sc, W, X, e, E, a, h => by
    have ih : ∀ e E, tr C T k sc e = some E → Told G n W X e E := fun e E h => tr_ok k sc W X e E a h
    have hz : ZMono (ZW G.XR W) := ZW.mono
    unfold tr at h
    split at h
    · rename_i hok
      split at h
      · -- a constant
        obtain ⟨d, h1, rfl⟩ := Option.map_eq_some_iff.mp h
        exact .plain hok rfl (const_ok h1)
      · -- a name
        rename_i x pos
        split at h
        · cases h
        · rename_i hd
          rw [Bool.or_eq_true, not_or] at hd
          have hd1 : (x == ("__debug__" : Str)) = false := by rw [← sEq_eq]; simpa using hd.1
          have hd2 : (x == ("__classdict__" : Str)) = false := by rw [← sEq_eq]; simpa using hd.2
          split at h
          · rename_i hv
            obtain ⟨i, h1, rfl⟩ := Option.map_eq_some_iff.mp h
            exact .plain hok rfl (mvE_var (pe_var (by rw [a.eN]; exact ixOf_at h1) (a.vis hv) hd1 hd2))
          · split at h
            · rename_i hg
              obtain ⟨d, h1, rfl⟩ := Option.map_eq_some_iff.mp h
              rw [fl_eq] at h1
              obtain ⟨u, v, hm, r, rp⟩ := a.wd.cn x d h1
              refine .plain hok rfl (pe_mono (pe_glob (a.gl hg) (by rw [a.eM]; exact hm) r hd1) fun σ H Q q => tE_const (by rw [a.eK]; exact rp) q)
            · cases h
      · -- a tuple
        rename_i es kk pos
        split at h
        · rename_i hl
          obtain ⟨Es', h1, rfl⟩ := Option.map_eq_some_iff.mp h
          obtain ⟨q1, q2, q3⟩ := trL_ok h1 fun e _ E h => ih e E h
          exact .plain hok rfl (pe_tupD (clEs_ne _) (fun env ds ed => by rw [evEs_len ed, q2]; exact hl) q1)
        · cases h
      · rename_i es pos
        split at h
        · rename_i hl
          obtain ⟨Es', h1, rfl⟩ := Option.map_eq_some_iff.mp h
          obtain ⟨q1, q2, q3⟩ := trL_ok h1 fun e _ E h => ih e E h
          exact .plain hok rfl (pe_lstD (clEs_ne _) (fun env ds ed => by rw [evEs_len ed, q2]; exact hl) q1)
        · cases h
      · -- an operator
        obtain ⟨o, h1, h⟩ := Option.bind_eq_some_iff.mp h
        obtain ⟨x, h2, h⟩ := Option.bind_eq_some_iff.mp h
        obtain ⟨y, h3, rfl⟩ := Option.map_eq_some_iff.mp h
        obtain ⟨b1, b2, b3⟩ := binO_ok (X := X) h1
        refine .plain hok rfl ?_
        rw [b3]
        exact pe_bin hz b2 b1 (ih _ _ h2).pe (ih _ _ h3).pe
      · obtain ⟨x, h2, rfl⟩ := Option.map_eq_some_iff.mp h
        obtain ⟨r, ho, hh⟩ := u_neg (X := X)
        exact .plain hok rfl (pe_mono (pe_un ho (ih _ _ h2).pe) fun σ H Q q => tE_op1 hz (fun d => by cases d <;> first | exact .ok | exact .bad) (hh _) q)
      · -- not
        obtain ⟨x, h2, rfl⟩ := Option.map_eq_some_iff.mp h
        exact ⟨hok, pe_notD (ih _ _ h2).pe, pt_notD (ih _ _ h2).pt⟩
      · obtain ⟨Es', h1, h⟩ := Option.bind_eq_some_iff.mp h
        obtain ⟨q1, q2⟩ := and_ok h1 h fun e _ E h => ih e E h
        exact ⟨hok, q1, q2.pt⟩
      · obtain ⟨Es', h1, h⟩ := Option.bind_eq_some_iff.mp h
        obtain ⟨q1, q2⟩ := or_ok h1 h fun e _ E h => ih e E h
        exact ⟨hok, q1, q2.pt⟩
      · -- a if c else b
        obtain ⟨x, h1, h⟩ := Option.bind_eq_some_iff.mp h
        obtain ⟨y, h2, h⟩ := Option.bind_eq_some_iff.mp h
        obtain ⟨z, h3, rfl⟩ := Option.map_eq_some_iff.mp h
        exact ⟨hok, pe_iteD hz (ih _ _ h1).pt (ih _ _ h2).pe (ih _ _ h3).pe, pt_iteD hz (ih _ _ h1).pt (ih _ _ h2).pt (ih _ _ h3).pt⟩
      · -- a comparison
        obtain ⟨o, h1, h⟩ := Option.bind_eq_some_iff.mp h
        obtain ⟨x, h2, h⟩ := Option.bind_eq_some_iff.mp h
        obtain ⟨y, h3, rfl⟩ := Option.map_eq_some_iff.mp h
        obtain ⟨b1, b2, b3, b4⟩ := cmpO_ok a.hu h1
        have ta := ih _ _ h2
        have tb := ih _ _ h3
        refine ⟨hok, ?_, pt_cmpD hz b2 b3 b1 ta.pe tb.pe (okE_mark tb.ok _)⟩
        rw [b4]
        exact pe_cmpD hz b2 b1 ta.pe tb.pe (okE_mark tb.ok _)
      · obtain ⟨o, h1, h⟩ := Option.bind_eq_some_iff.mp h
        obtain ⟨o', h1', h⟩ := Option.bind_eq_some_iff.mp h
        obtain ⟨x, h2, h⟩ := Option.bind_eq_some_iff.mp h
        obtain ⟨y, h3, h⟩ := Option.bind_eq_some_iff.mp h
        obtain ⟨z, h4, rfl⟩ := Option.map_eq_some_iff.mp h
        obtain ⟨b1, b2, b3, b4⟩ := cmpO_ok a.hu h1
        obtain ⟨c1, c2, c3, c4⟩ := cmpO_ok a.hu h1'
        have ta := ih _ _ h2
        have tb := ih _ _ h3
        have tc := ih _ _ h4
        exact ⟨hok, pe_chainD hz b2 c2 b3 b1 c1 ta.pe tb.pe tc.pe (okE_mark tc.ok _), pt_chainD hz b2 c2 b3 c3 b1 c1 ta.pe tb.pe tc.pe (okE_mark tc.ok _)⟩
      · cases h
      · -- slices
        split at h
        · obtain ⟨x, h1, h⟩ := Option.bind_eq_some_iff.mp h
          obtain ⟨y, h2, h⟩ := Option.bind_eq_some_iff.mp h
          obtain ⟨z, h3, rfl⟩ := Option.map_eq_some_iff.mp h
          exact .plain hok rfl (pe_cutFT hz (ih _ _ h1).pe (ih _ _ h2).pe (ih _ _ h3).pe)
        · obtain ⟨x, h1, h⟩ := Option.bind_eq_some_iff.mp h
          obtain ⟨y, h2, rfl⟩ := Option.map_eq_some_iff.mp h
          exact .plain hok rfl (pe_cutF hz (ih _ _ h1).pe (ih _ _ h2).pe)
        · obtain ⟨x, h1, h⟩ := Option.bind_eq_some_iff.mp h
          obtain ⟨y, h2, rfl⟩ := Option.map_eq_some_iff.mp h
          exact .plain hok rfl (pe_cutT hz (ih _ _ h1).pe (ih _ _ h2).pe)
        · cases h
      · obtain ⟨x, h1, h⟩ := Option.bind_eq_some_iff.mp h
        obtain ⟨y, h2, rfl⟩ := Option.map_eq_some_iff.mp h
        exact .plain hok rfl (pe_ixD hz noX_ix (x_ix a.hu1) (ih _ _ h1).pe (ih _ _ h2).pe (okE_ix (ih _ _ h2).ok))
      · -- a call
        rename_i x p es pos
        split at h
        · rename_i hg
          simp only [Bool.and_eq_true, Bool.not_eq_true'] at hg
          have hd1 : (x == ("__debug__" : Str)) = false := by rw [← sEq_eq]; exact hg.2
          split at h
          · rename_i f hf
            obtain ⟨Es', h1, rfl⟩ := Option.map_eq_some_iff.mp h
            rw [fl_eq] at hf
            obtain ⟨q1, q2, q3⟩ := trL_ok h1 fun e _ E h => ih e E h
            cases es with
            | nil => cases hok
            | cons e es =>
              rw [List.all_cons, Bool.and_eq_true] at q3
              exact .plain hok rfl (pe_callF a hf (a.gl hg.1) hd1 (clEs_ne _) q1 (okE_star q3.1 es X.env) (starAll es X.env pos q3.2))
          · split at h
            · rename_i hm
              have hm : X.mg x = none := by rw [a.eM]; exact a.wd.fr x (memS_ok hm)
              split at h
              · obtain ⟨o, h1, h⟩ := Option.bind_eq_some_iff.mp h
                obtain ⟨y, h2, rfl⟩ := Option.map_eq_some_iff.mp h
                exact .plain hok rfl (bi1_ok a.calm h1 (a.gl hg.1) hm (ih _ _ h2))
              · split at h
                · rename_i hx
                  have hx := sEq_iff.mp hx
                  subst hx
                  split at h
                  · rename_i t tp
                    split at h
                    · rename_i ht
                      rw [Bool.and_eq_true] at ht
                      obtain ⟨ty, h1, h⟩ := Option.bind_eq_some_iff.mp h
                      obtain ⟨y, h2, rfl⟩ := Option.map_eq_some_iff.mp h
                      obtain ⟨t1, t2, t3⟩ := tyO_ok h1
                      exact .plain hok rfl (pe_isi hz (noX_isi ty) (a.gl hg.1) hm (by decide +kernel) (a.gl ht.1) (by rw [a.eM]; exact a.wd.fr t (memS_ok ht.2)) t1 t2 t3 (ih _ _ h2).pe (by decide) (by decide) (okE_star (ih _ _ h2).ok _ X.env))
                    · cases h
                  · cases h
                · obtain ⟨o, h1, h⟩ := Option.bind_eq_some_iff.mp h
                  obtain ⟨y, h2, h⟩ := Option.bind_eq_some_iff.mp h
                  obtain ⟨z, h3, rfl⟩ := Option.map_eq_some_iff.mp h
                  exact .plain hok rfl (bi2_ok a.calm h1 (a.gl hg.1) hm (ih _ _ h2) (ih _ _ h3))
              · cases h
            · cases h
        · cases h
      · -- a method
        split at h
        · rename_i hline
          split at h
          · rename_i hm
            have hm := sEq_iff.mp hm
            subst hm
            obtain ⟨y, h2, h⟩ := Option.bind_eq_some_iff.mp h
            obtain ⟨z, h3, rfl⟩ := Option.map_eq_some_iff.mp h
            exact .plain hok rfl (pe_joinD hz (ih _ _ h2).pe (ih _ _ h3).pe (okE_base (ih _ _ h2).ok _ X.env) (okE_star (ih _ _ h3).ok [] X.env) hline)
          · cases h
        · cases h
      · -- a comprehension
        rename_i elt tg iter ifs scope pos
        obtain ⟨own, h1, h⟩ := Option.bind_eq_some_iff.mp h
        split at h
        · rename_i hs
          rw [Bool.and_eq_true, List.all_eq_true] at hs
          obtain ⟨it, h2, h⟩ := Option.bind_eq_some_iff.mp h
          obtain ⟨t, h3, h⟩ := Option.bind_eq_some_iff.mp h
          obtain ⟨cs, h4, h⟩ := Option.bind_eq_some_iff.mp h
          obtain ⟨x, h5, h⟩ := Option.bind_eq_some_iff.mp h
          split at h
          · rename_i hcl
            cases h
            have blk := fun (s : Shared) (H : Hp) (D : Addr) (cl : List (Str × Addr)) (fp : List Addr) => a.blk (scope := scope) s H cl D fp
            have hpg : ∀ (s : Shared) (H : Hp) (D : Addr) (cl : List (Str × Addr)) (fp : List Addr), PG (X.blk s H scope (compEnvC scope cl D X.env) fp) tg (gTg X.K t) ∧ (∀ i ∈ slT t, ∃ p ∈ own, p.2 = i) ∧ ∀ p ∈ own, X.N[p.2]? = some p.1 ∧ p.2 ∈ slT t := fun s H D cl fp =>
              pg_of (X := X.blk s H scope (compEnvC scope cl D X.env) fp) (mu := []) a.calm (by show X.N.Nodup; rw [a.eN]; exact a.nd) 9 tg t own (by show trT X.N [] 9 tg = _; rw [a.eN]; exact h3) (by show namesT X.N 9 tg = _; rw [a.eN]; exact h1) fun p hp => storeOk_ok (hs.1 p hp)
            obtain ⟨s0, hs1, hs2⟩ : ∃ s0 : Unit, (∀ i ∈ slT t, ∃ p ∈ own, p.2 = i) ∧ ∀ p ∈ own, X.N[p.2]? = some p.1 ∧ p.2 ∈ slT t := ⟨(), (hpg ⟨X.base, #[], X.s_0.drawn, 0, X.s_0.os⟩ (fun _ => none) 0 [] []).2⟩
            have ti := trI_ok (tg := tg) a h2 ih hcl
            refine .plain hok rfl ?_
            have tests : ∀ (s : Shared) (H : Hp) (D : Addr) (cl : List (Str × Addr)) (fp : List Addr), PTs (X.blk s H scope (compEnvC scope cl D X.env) fp) ifs (tB' X.K (ZW G.XR fun _ _ _ _ => False) (evC (FF G n) cs)) := fun s H D cl fp => by
              split at h4
              · cases h4
                refine ⟨fun pins s σ H Q I q => pts_nil.run pins s σ H Q I ?_⟩
                obtain ⟨O, env, en, q⟩ := q
                exact (show ∀ H', Ext H H' → Q true H' from q) H Ext.refl
              · obtain ⟨y, h6, rfl⟩ := Option.map_eq_some_iff.mp h4
                exact pts_one (tr_ok k (relT scope sc) _ _ _ y (blk s H D cl fp) h6).pt
              · cases h4
            exact pe_compD (Z0 := ZW G.XR fun _ _ _ _ => False) a.calm (by rw [a.eN]; exact a.nd) ti.1 (by rw [a.esc, a.eN]; exact blkB_ok hs.2 fun p hp => by rw [← a.eN]; exact (hs2 p hp).1) hs1 hs2 (fun s H D cl fp => (hpg s H D cl fp).1) tests
              (fun s H D cl fp => (tr_ok k (relT scope sc) _ _ elt x (blk s H D cl fp) h5).pe) (okE_fold ti.2 X.env)
          · cases h
        · cases h
      · cases h
    · cases h
end
end TQ

/-! DS14: the state of a def between two statements. -/
namespace TQ
open PySem PySem.Spec PyProof.Rows L2

/-- hidden: what was hidden ahead, and the frame's own lists and dicts -/
def hidOf (h : Addr → Prop) (M : Nat → Option Addr) : Hid := ⟨h, fun a => h a ∨ ∃ i, M i = some a, fun _ => .inl⟩
def SlotM (K : PySem.W.Frag) (h : Addr → Prop) (M : Nat → Option Addr) (H : Hp) (i : Nat) (v : Option (Option V)) : Slot → Prop
  | .no => True
  | .val d => ∃ u, v = some (some u) ∧ Rep K (hide (hidOf h M).o H) u d
  | .ml ds => ∃ a vs, v = some (some (.ref a)) ∧ M i = some a ∧ H a = some (.lst vs) ∧ Reps K (hide (hidOf h M).o H) vs ds
  | .md ds => ∃ a kvs, v = some (some (.ref a)) ∧ M i = some a ∧ H a = some (.dK kvs) ∧ RepK K (hide (hidOf h M).o H) kvs ds
structure StR (K : PySem.W.Frag) (h : Addr → Prop) (H0 : Hp) (M : Nat → Option Addr) (H : Hp) (σ : L2.St) (env : Env) : Prop where
  at_ : ∀ i, SlotM K h M H i σ[i]? (getS env i)
  inj : ∀ i j a, M i = some a → M j = some a → i = j
  own : ∀ i a, M i = some a → H0 a = none ∧ H a ≠ none
  old : Ext H0 H
  hok : ∀ a, h a → H0 a ≠ none
section
variable {K : PySem.W.Frag} {h : Addr → Prop} {H0 H H' : Hp} {M M' : Nat → Option Addr} {σ : L2.St} {env : Env}
theorem StR.nh (s : StR K h H0 M H σ env) {i : Nat} {a : Addr} (e : M i = some a) : ¬ h a := fun z => s.hok a z (s.own i a e).1
theorem StR.ook (s : StR K h H0 M H σ env) : OOk (hidOf h M) H := fun a z => by
  rcases z with z | ⟨i, e⟩
  · cases q : H0 a with
    | none => exact absurd q (s.hok a z)
    | some o => rw [s.old a o q]; simp
  · exact (s.own i a e).2
theorem StR.envR (s : StR K h H0 M H σ env) : EnvR K (hidOf h M) H σ env := ⟨s.ook, fun i => by
  have q := s.at_ i
  cases e : getS env i with
  | no => trivial
  | val d => rw [e] at q; exact q
  | ml ds =>
    rw [e] at q
    obtain ⟨a, vs, e1, e2, e3, r⟩ := q
    exact ⟨a, vs, e1, .inr ⟨i, e2⟩, s.nh e2, e3, r⟩
  | md ds =>
    rw [e] at q
    obtain ⟨a, vs, e1, e2, e3, r⟩ := q
    exact ⟨a, vs, e1, .inr ⟨i, e2⟩, s.nh e2, .inl e3, r⟩⟩
theorem StR.ext (x : Ext H H') (s : StR K h H0 M H σ env) : StR K h H0 M H' σ env := ⟨fun i => by
  have q := s.at_ i
  cases e : getS env i with
  | no => trivial
  | val d => rw [e] at q; obtain ⟨u, e1, r⟩ := q; exact ⟨u, e1, Rep.mono x.hide.le r⟩
  | ml ds =>
    rw [e] at q
    obtain ⟨a, vs, e1, e2, e3, r⟩ := q
    exact ⟨a, vs, e1, e2, x _ _ e3, Reps.mono x.hide.le r⟩
  | md ds =>
    rw [e] at q
    obtain ⟨a, vs, e1, e2, e3, r⟩ := q
    exact ⟨a, vs, e1, e2, x _ _ e3, RepK.mono x.hide.le r⟩,
  s.inj, fun i a e => ⟨(s.own i a e).1, by
    cases q : H a with
    | none => exact absurd q (s.own i a e).2
    | some o => rw [x a o q]; simp⟩, s.old.trans x, s.hok⟩
/-- fewer are the frame's own -/
def dropM (M : Nat → Option Addr) (L : List Nat) : Nat → Option Addr := fun i => if i ∈ L then none else M i
theorem dropM_sub {L : List Nat} : ∀ a, (hidOf h (dropM M L)).o a → (hidOf h M).o a := fun a z => by
  rcases z with z | ⟨i, e⟩
  · exact .inl z
  · unfold dropM at e
    split at e
    · cases e
    · exact .inr ⟨i, e⟩
theorem dropM_ext {L : List Nat} : Ext (hide (hidOf h M).o H) (hide (hidOf h (dropM M L)).o H) := hide_sub dropM_sub

/-! ### a target's places -/
mutual
theorem setT_len : ∀ (t : Tg) {d : D} {env env' : Env}, setT t d env = .ok env' → env'.length = env.length
  | .nm i, d, env, env', h => by cases h; exact setS_length
  | .tp ts, d, env, env', h => by
    cases d with
    | tup ds => exact setTs_len' ts h
    | _ => cases h
theorem setTs_len' : ∀ (ts : Tgs) {ds : List D} {env env' : Env}, setTs ts ds env = .ok env' → env'.length = env.length
  | .nil, ds, env, env', h => by
    cases ds with
    | nil => cases h; rfl
    | cons => cases h
  | .cons t ts, ds, env, env', h => by
    cases ds with
    | nil => cases h
    | cons d ds =>
      obtain ⟨env1, h1, h2⟩ := R.bind_eq_ok (show (setT t d env).bind (fun env' => setTs ts ds env') = .ok env' from h)
      rw [setTs_len' ts h2, setT_len t h1]
end
mutual
theorem setT_other : ∀ (t : Tg) {d : D} {env env' : Env} {j : Nat}, setT t d env = .ok env' → j ∉ slT t → getS env' j = getS env j
  | .nm i, d, env, env', j, h, hj => by cases h; exact getS_set_other fun e => hj (List.mem_singleton.mpr e)
  | .tp ts, d, env, env', j, h, hj => by
    cases d with
    | tup ds => exact setTs_other ts h hj
    | _ => cases h
theorem setTs_other : ∀ (ts : Tgs) {ds : List D} {env env' : Env} {j : Nat}, setTs ts ds env = .ok env' → j ∉ slTs ts → getS env' j = getS env j
  | .nil, ds, env, env', j, h, hj => by
    cases ds with
    | nil => cases h; rfl
    | cons => cases h
  | .cons t ts, ds, env, env', j, h, hj => by
    cases ds with
    | nil => cases h
    | cons d ds =>
      obtain ⟨env1, h1, h2⟩ := R.bind_eq_ok (show (setT t d env).bind (fun env' => setTs ts ds env') = .ok env' from h)
      rw [setTs_other ts h2 fun m => hj (List.mem_append_right _ m), setT_other t h1 fun m => hj (List.mem_append_left _ m)]
end
/-- a value, or no place at all -/
def isVal : Slot → Prop
  | .val _ => True
  | .no => True
  | _ => False
mutual
theorem setT_val : ∀ (t : Tg) {d : D} {env env' : Env} {j : Nat}, setT t d env = .ok env' → j ∈ slT t → isVal (getS env' j)
  | .nm i, d, env, env', j, h, hj => by
    cases h
    rw [List.mem_singleton.mp hj]
    by_cases hl : i < env.length
    · rw [getS_set_same hl]; trivial
    · rw [getS_out (by rw [setS_length]; omega)]; trivial
  | .tp ts, d, env, env', j, h, hj => by
    cases d with
    | tup ds => exact setTs_val ts h hj
    | _ => cases h
theorem setTs_val : ∀ (ts : Tgs) {ds : List D} {env env' : Env} {j : Nat}, setTs ts ds env = .ok env' → j ∈ slTs ts → isVal (getS env' j)
  | .nil, ds, env, env', j, h, hj => by cases hj
  | .cons t ts, ds, env, env', j, h, hj => by
    cases ds with
    | nil => cases h
    | cons d ds =>
      obtain ⟨env1, h1, h2⟩ := R.bind_eq_ok (show (setT t d env).bind (fun env' => setTs ts ds env') = .ok env' from h)
      by_cases hm : j ∈ slTs ts
      · exact setTs_val ts h2 hm
      · rw [setTs_other ts h2 hm]
        exact setT_val t h1 ((List.mem_append.mp hj).resolve_right hm)
end
/-- the frame's places behind a target's store -/
theorem StR.tgt {t : Tg} {d : D} {env' : Env} {σ' : L2.St} (s : StR K h H0 M H σ env) (he : setT t d env = .ok env') (e : EnvR K (hidOf h M) H σ' env') (sm : Same (slT t) σ σ') : StR K h H0 (dropM M (slT t)) H σ' env' := by
  refine ⟨fun i => ?_, fun i j a e1 e2 => ?_, fun i a e => ?_, s.old, s.hok⟩
  · by_cases hi : i ∈ slT t
    · have q := e.at_ i
      have v := setT_val t he hi
      cases eq : getS env' i with
      | no => trivial
      | val d' => rw [eq] at q; obtain ⟨u, e1, r⟩ := q; exact ⟨u, e1, Rep.mono dropM_ext.le r⟩
      | ml ds => rw [eq] at v; exact v.elim
      | md ds => rw [eq] at v; exact v.elim
    · have q := s.at_ i
      rw [setT_other t he hi, sm.2 i hi]
      have eM : dropM M (slT t) i = M i := if_neg hi
      cases eq : getS env i with
      | no => trivial
      | val d' => rw [eq] at q; obtain ⟨u, e1, r⟩ := q; exact ⟨u, e1, Rep.mono dropM_ext.le r⟩
      | ml ds => rw [eq] at q; obtain ⟨a, vs, e1, e2, e3, r⟩ := q; exact ⟨a, vs, e1, eM.trans e2, e3, Reps.mono dropM_ext.le r⟩
      | md ds => rw [eq] at q; obtain ⟨a, vs, e1, e2, e3, r⟩ := q; exact ⟨a, vs, e1, eM.trans e2, e3, RepK.mono dropM_ext.le r⟩
  · unfold dropM at e1 e2
    split at e1
    · cases e1
    · split at e2
      · cases e2
      · exact s.inj i j a e1 e2
  · unfold dropM at e
    split at e
    · cases e
    · exact s.own i a e
/-- a place frozen -/
theorem StR.frz {i : Nat} (s : StR K h H0 M H σ env) : StR K h H0 (dropM M [i]) H σ (setS env i (frz1 (getS env i))) := by
  refine ⟨fun j => ?_, fun i' j a e1 e2 => ?_, fun i a e => ?_, s.old, s.hok⟩
  · by_cases hj : j = i
    · subst hj
      have q := s.at_ j
      by_cases hl : j < env.length
      · rw [getS_set_same hl]
        cases eq : getS env j with
        | no => trivial
        | val d' => rw [eq] at q; obtain ⟨u, e1, r⟩ := q; exact ⟨u, e1, Rep.mono dropM_ext.le r⟩
        | ml ds =>
          rw [eq] at q; obtain ⟨a, vs, e1, e2, e3, r⟩ := q
          refine ⟨_, e1, .lst ?_ (Reps.mono dropM_ext.le r)⟩
          rw [hide_of]
          · exact e3
          · rintro (z | ⟨k, z⟩)
            · exact s.nh e2 z
            · unfold dropM at z
              split at z
              · cases z
              · rename_i hk
                exact hk (List.mem_singleton.mpr (s.inj _ _ _ z e2))
        | md ds =>
          rw [eq] at q; obtain ⟨a, vs, e1, e2, e3, r⟩ := q
          refine ⟨_, e1, .dct (.inl ?_) (RepK.mono dropM_ext.le r)⟩
          rw [hide_of]
          · exact e3
          · rintro (z | ⟨k, z⟩)
            · exact s.nh e2 z
            · unfold dropM at z
              split at z
              · cases z
              · rename_i hk
                exact hk (List.mem_singleton.mpr (s.inj _ _ _ z e2))
      · rw [getS_out (by rw [setS_length]; omega)]; trivial
    · have q := s.at_ j
      rw [getS_set_other hj]
      have eM : dropM M [i] j = M j := if_neg fun m => hj (List.mem_singleton.mp m)
      cases eq : getS env j with
      | no => trivial
      | val d' => rw [eq] at q; obtain ⟨u, e1, r⟩ := q; exact ⟨u, e1, Rep.mono dropM_ext.le r⟩
      | ml ds => rw [eq] at q; obtain ⟨a, vs, e1, e2, e3, r⟩ := q; exact ⟨a, vs, e1, eM.trans e2, e3, Reps.mono dropM_ext.le r⟩
      | md ds => rw [eq] at q; obtain ⟨a, vs, e1, e2, e3, r⟩ := q; exact ⟨a, vs, e1, eM.trans e2, e3, RepK.mono dropM_ext.le r⟩
  · unfold dropM at e1 e2
    split at e1
    · cases e1
    · split at e2
      · cases e2
      · exact s.inj i' j a e1 e2
  · unfold dropM at e
    split at e
    · cases e
    · exact s.own _ a e
theorem StR.frzs : ∀ (fz : List Nat) {M : Nat → Option Addr} {env : Env}, StR K h H0 M H σ env → ∃ M', StR K h H0 M' H σ (frzE fz env) ∧ ∀ H, Ext (hide (hidOf h M).o H) (hide (hidOf h M').o H)
  | [], M, env, s => ⟨M, s, fun _ => Ext.refl⟩
  | i :: r, M, env, s => by
    obtain ⟨M', s', x⟩ := StR.frzs r (s.frz (i := i))
    exact ⟨M', s', fun H => dropM_ext.trans (x H)⟩
end

/-! ### a statement's reading -/
/-- what is wanted where an exception flies out of statements: whatever the places hold -/
def ZS (XR : Hp → Value → Option Addr → List Nat → List D → Prop) (W : WX) (H0 : Hp) : List Nat → List D → Prop := fun c as => ∀ cls dd σ' H', Ext H0 H' → XR H' cls dd c as → W cls dd σ' H'
theorem ZS.w {XR : Hp → Value → Option Addr → List Nat → List D → Prop} {W : WX} {H0 H : Hp} {σ : L2.St} (x : Ext H0 H) {c : List Nat} {as : List D} (z : ZS XR W H0 c as) : ZW XR W σ H c as := fun cls dd H' x' r => z cls dd σ H' (x.trans x') r
/-- the end that a statement is to reach -/
def EndP (K : PySem.W.Frag) (h : Addr → Prop) (H0 : Hp) (M : Nat → Option Addr) (H : Hp) (D : Ends) : Out → Prop
  | .nx env' => ∀ M' σ' H', StR K h H0 M' H' σ' env' → Ext (hide (hidOf h M).o H) (hide (hidOf h M').o H') → D.nx σ' H'
  | .rt d => ∀ v H', Ext H0 H' → Rep K (hide h H') v d → D.rt v H'
def tSt (K : PySem.W.Frag) (XR : Hp → Value → Option Addr → List Nat → List D → Prop) (W : WX) (r : Env → R Out) : TS := fun D σ H => ∃ h H0 M env, StR K h H0 M H σ env ∧ Post (r env) (EndP K h H0 M H D) (ZS XR W H0)
section
variable {X : Cx} {XR : Hp → Value → Option Addr → List Nat → List D → Prop} {W : WX} {st : Stmt} {rest : List Stmt} {r r' : Env → R Out} {ra : Env → R D} {rb : Env → R (List D)} {c : Cls} {e : Expr} {pos : Pos}
theorem EndP.imp {K : PySem.W.Frag} {h : Addr → Prop} {H0 : Hp} {M M1 : Nat → Option Addr} {H H1 : Hp} {D : Ends} {o : Out} (x : Ext (hide (hidOf h M).o H) (hide (hidOf h M1).o H1)) (q : EndP K h H0 M H D o) : EndP K h H0 M1 H1 D o := by
  cases o with
  | nx env' => exact fun M' σ' H' s y => q M' σ' H' s (x.trans y)
  | rt d => exact q
theorem pss_nilD : PSs X [] (tSt X.K XR W fun env => .ok (.nx env)) := pss_mono pss_nil fun D σ H q => by
  obtain ⟨h, H0, M, env, s, q⟩ := q
  exact (show EndP X.K h H0 M H D (.nx env) from q) M σ H s Ext.refl
theorem pss_consD (h1 : PS X st (tSt X.K XR W r)) (h2 : PSs X rest (tSt X.K XR W r')) : PSs X (st :: rest) (tSt X.K XR W fun env => (r env).bind fun o => match o with | .nx env' => r' env' | .rt d => .ok (.rt d)) :=
  pss_mono (pss_cons h1 h2) fun D σ H q => by
    obtain ⟨h, H0, M, env, s, q⟩ := q
    refine ⟨h, H0, M, env, s, (Post.bind q).imp (fun o _ q => ?_) fun _ _ z => z⟩
    cases o with
    | nx env' => exact fun M' σ' H' s' x => ⟨h, H0, M', env', s', Post.imp q (fun o _ q => q.imp x) fun _ _ z => z⟩
    | rt d => exact q
/-- from a value on -/
theorem st_then {α : Type} {K : PySem.W.Frag} {h : Addr → Prop} {H0 H : Hp} {M : Nat → Option Addr} {σ : L2.St} {env : Env} {f : D → R α} {P : α → Prop} {Q : VK} (s : StR K h H0 M H σ env) (q : Post ((ra env).bind f) P (ZS XR W H0))
    (hq : ∀ d v H', ra env = .ok d → Ext H H' → StR K h H0 M H' σ env → RepC K c (hidOf h M) H' v d → Post (f d) P (ZS XR W H0) → Q v H') : tE K (ZW XR W) c ra σ H Q :=
  ⟨hidOf h M, env, s.envR, (Post.bind q).imp (fun d ed q v H' x r => hq d v H' ed x (s.ext x) r q) fun c as z => ZS.w s.old z⟩
theorem ps_retD (he : PE X e (tE X.K (ZW XR W) c ra)) : PS X (.Return (some e) pos) (tSt X.K XR W fun env => (ra env).bind fun d => .ok (.rt d)) :=
  ps_mono (ps_ret he) fun D σ H q => by
    obtain ⟨h, H0, M, env, s, q⟩ := q
    exact st_then s q fun d v H' _ x s' r q => (show EndP X.K h H0 M H D (.rt d) from q) v H' s'.old r.leak
theorem ps_retND : PS X (.Return none pos) (tSt X.K XR W fun _ => .ok (.rt .non)) :=
  ps_mono ps_retN fun D σ H q => by
    obtain ⟨h, H0, M, env, s, q⟩ := q
    exact (show EndP X.K h H0 M H D (.rt .non) from q) .non H s.old .non
theorem ps_passD : PS X (.Pass pos) (tSt X.K XR W fun env => .ok (.nx env)) :=
  ps_mono ps_pass fun D σ H q => by
    obtain ⟨h, H0, M, env, s, q⟩ := q
    exact (show EndP X.K h H0 M H D (.nx env) from q) M σ H s Ext.refl
theorem ps_exD (he : PE X e (tE X.K (ZW XR W) c ra)) (hs : swapsWith e none pos.line X.env = pure false) : PS X (.Expr e pos) (tSt X.K XR W fun env => (ra env).bind fun _ => .ok (.nx env)) :=
  ps_mono (ps_expr he hs) fun D σ H q => by
    obtain ⟨h, H0, M, env, s, q⟩ := q
    have q : Post ((ra env).bind fun _ => (.ok (Out.nx env) : R Out)) (EndP X.K h H0 M H D) (ZS XR W H0) := q
    exact st_then s q fun d v H' _ x s' r q => (show EndP X.K h H0 M H D (.nx env) from q) M σ H' s' x.hide
theorem ps_ifD {a b : List Stmt} (hc : PT X e (tB' X.K (ZW XR W) fun env => (ra env).bind truthD)) (ha : PSs X a (tSt X.K XR W r)) (hb : PSs X b (tSt X.K XR W r')) :
    PS X (.If e a b pos) (tSt X.K XR W fun env => (ra env).bind fun x => (truthD x).bind fun t => if t then r env else r' env) :=
  ps_mono (ps_if hc ha hb) fun D σ H q => by
    obtain ⟨h, H0, M, env, s, q⟩ := q
    have q : Post (((ra env).bind truthD).bind fun t => if t then r env else r' env) (EndP X.K h H0 M H D) (ZS XR W H0) := by rw [R.bind_assoc]; exact q
    refine ⟨hidOf h M, env, s.envR, (Post.bind q).imp (fun t _ q H1 x => ?_) fun c as z => ZS.w s.old z⟩
    have s1 := s.ext x
    cases t with
    | true => exact ⟨h, H0, M, env, s1, Post.imp q (fun o _ q => q.imp x.hide) fun _ _ z => z⟩
    | false => exact ⟨h, H0, M, env, s1, Post.imp q (fun o _ q => q.imp x.hide) fun _ _ z => z⟩
/-- a value stored -/
theorem tgt_red {t : Tg} {DD : Ends} {σ : L2.St} {H : Hp} (hsl : ∀ i ∈ slT t, i < X.N.length) (hl : σ.length = X.N.length) (q : tSt X.K XR W (fun env => (ra env).bind fun d => (setT t d env).bind fun env' => .ok (.nx env')) DD σ H) :
    tAsg (tE X.K (ZW XR W) .clean ra) (gTg X.K t) DD σ H := by
  obtain ⟨h, H0, M, env, s, q⟩ := q
  have q : Post ((ra env).bind fun d => (setT t d env).bind fun env' => (.ok (Out.nx env') : R Out)) (EndP X.K h H0 M H DD) (ZS XR W H0) := q
  refine st_then s q fun d v H' _ x s' r q => ?_
  cases he : setT t d env with
  | bad => rw [he] at q; exact q.elim
  | exc c as =>
    exfalso
    have : ∀ (t : Tg) (d : D) (env : Env), NoX (setT t d env) := by
      intro t
      refine Tg.rec (motive_1 := fun t => ∀ d env, NoX (setT t d env)) (motive_2 := fun ts => ∀ ds env, NoX (setTs ts ds env)) ?_ ?_ ?_ ?_ t
      · intro i d env; exact .ok
      · intro ts ih d env; cases d <;> first | exact ih _ _ | exact .bad
      · intro ds env; cases ds <;> first | exact .ok | exact .bad
      · intro t ts ih1 ih2 ds env
        cases ds with
        | nil => exact .bad
        | cons d ds => exact (ih1 d env).bind fun env' => ih2 ds env'
    exact this t d env c as he
  | ok env' =>
    rw [he] at q
    refine gTg_ok t (S := fun _ => False) s'.envR.p r he (fun i hi => by rw [hl]; exact hsl i hi) fun σ' e' sm => ?_
    exact (show EndP X.K h H0 M H DD (.nx env') from q) (dropM M (slT t)) σ' H' (s'.tgt he (e'.r fun _ z => z.1) sm) (x.hide.trans dropM_ext)
theorem ps_asgD {t : Tg} {tg : Expr} (hsl : ∀ i ∈ slT t, i < X.N.length) (he : PE X e (tE X.K (ZW XR W) .clean ra)) (hg : PG X tg (gTg X.K t)) (hs : swapsWithSole [tg] e pos.line X.env = pure false) (hw : swappedStores [tg] e X.env = pure none) (h1 : (assignEach [tg] X.env).map (·.2) = [assign tg X.env]) :
    PS X (.Assign [tg] e pos) (tSt X.K XR W fun env => (ra env).bind fun d => (setT t d env).bind fun env' => .ok (.nx env')) :=
  ps_mono_len (ps_asg he hg hs hw h1) fun D σ H hl q => tgt_red hsl hl q

end
end TQ

/-! DS15: for, while. -/
namespace TQ
open PySem PySem.Spec PyProof.Rows L2

section
variable {X : Cx} {XR : Hp → Value → Option Addr → List Nat → List TQ.D → Prop} {W : WX} {r : Env → R Out} {rI : Env → R (List TQ.D)} {e iter tg : Expr} {pos : Pos} {body : List Stmt} {t : Tg} {fz : List Nat} {ra : Env → R TQ.D} {rc : Env → R Bool}
theorem setT_noX (t : Tg) : ∀ (d : TQ.D) (env : Env), NoX (setT t d env) := by
  refine Tg.rec (motive_1 := fun t => ∀ d env, NoX (setT t d env)) (motive_2 := fun ts => ∀ ds env, NoX (setTs ts ds env)) ?_ ?_ ?_ ?_ t
  · intro i d env; exact .ok
  · intro ts ih d env; cases d <;> first | exact ih _ _ | exact .bad
  · intro ds env; cases ds <;> first | exact .ok | exact .bad
  · intro t ts ih1 ih2 ds env
    cases ds with
    | nil => exact .bad
    | cons d ds => exact (ih1 d env).bind fun env' => ih2 ds env'
theorem pg_len {g : TG} (h : PG X tg g) : PG X tg (fun x σ H Q => σ.length = X.N.length → g x σ H Q) := ⟨fun pins s σ H v u Q I r q => h.run pins s σ H v u Q I r (q I.len)⟩
theorem for_red {D : Ends} {σ : L2.St} {H : Hp} (hsl : ∀ i ∈ slT t, i < X.N.length)
    (q : tSt X.K XR W (fun env => (rI (frzE fz env)).bind fun ds => forD (fun env' d => (setT t d env').bind fun env2 => r env2) ds (frzE fz env)) D σ H) :
    tFor (tI X.K (ZW XR W) .clean rI) (fun x σ H Q => σ.length = X.N.length → gTg X.K t x σ H Q) (tSt X.K XR W r) D σ H := by
  obtain ⟨h, H0, M, env, s, q⟩ := q
  obtain ⟨M1, s1, xM⟩ := s.frzs fz
  refine ⟨hidOf h M1, frzE fz env, s1.envR, (Post.bind q).imp (fun ds _ q J H1 x1 y => ?_) fun c as z => ZS.w s.old z⟩
  have s2 := s1.ext x1
  have q : Post (forD (fun env' d => (setT t d env').bind fun env2 => r env2) ds (frzE fz env)) (EndP X.K h H0 M1 H1 D) (ZS XR W H0) := q.imp (fun o _ p => p.imp ((xM H).trans x1.hide)) fun _ _ z => z
  refine ⟨fun i m σ' H' => m = ds.length - i ∧ i ≤ ds.length ∧ ∃ M' env', StR X.K h H0 M' H' σ' env' ∧ Ext (hide (hidOf h M1).o H1) (hide (hidOf h M').o H') ∧
      Post (forD (fun env' d => (setT t d env').bind fun env2 => r env2) (ds.drop i) env') (EndP X.K h H0 M1 H1 D) (ZS XR W H0), ⟨_, rfl, Nat.zero_le _, M1, _, s2, Ext.refl, q⟩, ?_⟩
  rintro i m σ' H' ⟨rfl, hi, M', env', s', x', q'⟩
  have yi := y.2 (hidOf h M').o H' s'.ook (x'.trans hide_ext) x' i
  by_cases hlt : i < ds.length
  · obtain ⟨hg, hy⟩ := yi.1 ds[i] (List.getElem?_eq_getElem hlt)
    rw [List.drop_eq_getElem_cons hlt] at q'
    refine .inr ⟨hg, _, fun σ2 H2 p => ⟨ds.length - (i + 1), by omega, rfl, hlt, p⟩, fun v H2 hyl hlen => ?_⟩
    obtain ⟨x2, rv⟩ := hy v H2 hyl
    have s3 := s'.ext x2
    have q' : Post (((setT t ds[i] env').bind fun env2 => r env2).bind fun o => match o with | .nx env' => forD (fun env' d => (setT t d env').bind fun env2 => r env2) (ds.drop (i + 1)) env' | .rt x => .ok (.rt x)) (EndP X.K h H0 M1 H1 D) (ZS XR W H0) := q'
    rw [R.bind_assoc] at q'
    cases he : setT t ds[i] env' with
    | bad => rw [he] at q'; exact q'.elim
    | exc c as => exact absurd he (setT_noX t _ _ c as)
    | ok env2 =>
      rw [he] at q'
      refine gTg_ok t (S := fun _ => False) s3.envR.p rv he (fun j hj => by rw [hlen]; exact hsl j hj) fun σ3 e' sm => ?_
      have s4 := s3.tgt he (e'.r fun _ z => z.1) sm
      refine ⟨h, H0, dropM M' (slT t), env2, s4, (Post.bind (show Post ((r env2).bind _) _ _ from q')).imp (fun o _ p => ?_) fun _ _ z => z⟩
      cases o with
      | nx env3 => exact fun M3 σ4 H3 s5 x5 => ⟨M3, env3, s5, (x'.trans x2.hide).trans (dropM_ext.trans x5), p⟩
      | rt d => exact p
  · have e : i = ds.length := by omega
    subst e
    rw [List.drop_length] at q'
    exact .inl ⟨yi.2 (Nat.le_refl _), (show EndP X.K h H0 M1 H1 D (.nx env') from q') M' σ' H' s' x'⟩
theorem ps_forD (hsl : ∀ i ∈ slT t, i < X.N.length) (hp : PassesOwn (model X.prog X.w) X.A X.env X.xe) (hc : X.calm = true) (hi : PI X tg iter (tI X.K (ZW XR W) .clean rI)) (hg : PG X tg (gTg X.K t)) (hb : PSs X body (tSt X.K XR W r)) (hs : ∀ x, foldedSetIterable iter X.env x = pure x) :
    PS X (.For tg iter body [] pos) (tSt X.K XR W fun env => (rI (frzE fz env)).bind fun ds => forD (fun env' d => (setT t d env').bind fun env2 => r env2) ds (frzE fz env)) :=
  ps_mono (ps_for hp hc hi (pg_len hg) hb hs) fun D σ H q => for_red hsl q
theorem while_red {D : Ends} {σ : L2.St} {H : Hp} {k : Nat} (q : tSt X.K XR W (fun env => whileD rc r k env) D σ H) : tWhile (tB' X.K (ZW XR W) rc) (tSt X.K XR W r) D σ H := by
  obtain ⟨h, H0, M, env, s, q⟩ := q
  refine ⟨fun m σ' H' => ∃ M' env', StR X.K h H0 M' H' σ' env' ∧ Ext (hide (hidOf h M).o H) (hide (hidOf h M').o H') ∧ Post (whileD rc r m env') (EndP X.K h H0 M H D) (ZS XR W H0), ⟨k, M, env, s, Ext.refl, q⟩, ?_⟩
  rintro m σ' H' ⟨M', env', s', x', q'⟩
  cases m with
  | zero => exact (show False from q').elim
  | succ m =>
    have q' : Post ((rc env').bind fun t => if t then (r env').bind fun o => match o with | .nx env' => whileD rc r m env' | .rt x => .ok (.rt x) else .ok (.nx env')) (EndP X.K h H0 M H D) (ZS XR W H0) := q'
    refine ⟨hidOf h M', env', s'.envR, (Post.bind q').imp (fun b _ q2 H1 x1 => ?_) fun c as z => ZS.w s'.old z⟩
    have s1 := s'.ext x1
    cases b with
    | false => exact (show EndP X.K h H0 M H D (.nx env') from q2) M' σ' H1 s1 (x'.trans x1.hide)
    | true =>
      have q2 : Post ((r env').bind fun o => match o with | .nx env' => whileD rc r m env' | .rt x => .ok (.rt x)) (EndP X.K h H0 M H D) (ZS XR W H0) := q2
      refine ⟨fun σ2 H2 => ∃ M2 env2, StR X.K h H0 M2 H2 σ2 env2 ∧ Ext (hide (hidOf h M).o H) (hide (hidOf h M2).o H2) ∧ Post (whileD rc r m env2) (EndP X.K h H0 M H D) (ZS XR W H0), fun σ2 H2 p => ⟨m, Nat.lt_succ_self _, p⟩, h, H0, M', env', s1, (Post.bind q2).imp (fun o _ p => ?_) fun _ _ z => z⟩
      cases o with
      | nx env3 => exact fun M3 σ4 H3 s5 x5 => ⟨M3, env3, s5, (x'.trans x1.hide).trans x5, p⟩
      | rt d => exact p
theorem ps_whileD {k : Nat} (hp : PassesOwn (model X.prog X.w) X.A X.env X.xe) (hc : PT X e (tB' X.K (ZW XR W) rc)) (hb : PSs X body (tSt X.K XR W r)) :
    PS X (.While e body [] pos) (tSt X.K XR W fun env => whileD rc r k env) := ps_mono (ps_while hp hc hb) fun D σ H q => while_red q
end
end TQ

/-! DS16: the frame's own lists and dicts: made, changed. -/
namespace TQ
open PySem PySem.Spec PyProof.Rows L2

section
variable {K : PySem.W.Frag} {h : Addr → Prop} {H0 H H' : Hp} {M : Nat → Option Addr} {σ : L2.St} {env : Env} {i : Nat} {a : Addr} {o : HO} {sl : Slot}
/-- the frame's own is changed -/
theorem StR.wr (s : StR K h H0 M H σ env) (eM : M i = some a) (q : SlotM K h M (upd H a o) i σ[i]? sl) : StR K h H0 M (upd H a o) σ (setS env i sl) := by
  have hd : (hidOf h M).o a := .inr ⟨i, eM⟩
  have eh : hide (hidOf h M).o (upd H a o) = hide (hidOf h M).o H := hide_upd hd
  refine ⟨fun j => ?_, s.inj, fun j b e => ⟨(s.own j b e).1, ?_⟩, fun b u e => ?_, s.hok⟩
  · by_cases hj : j = i
    · subst hj
      by_cases hl : j < env.length
      · rw [getS_set_same hl]; exact q
      · rw [getS_out (by rw [setS_length]; omega)]; trivial
    · rw [getS_set_other hj]
      have p := s.at_ j
      have ne : ∀ b, M j = some b → b ≠ a := fun b e z => hj (s.inj j i b e (by rw [z]; exact eM))
      cases eq : getS env j with
      | no => trivial
      | val d => rw [eq] at p; obtain ⟨u, e1, r⟩ := p; exact ⟨u, e1, by rw [eh]; exact r⟩
      | ml ds => rw [eq] at p; obtain ⟨b, vs, e1, e2, e3, r⟩ := p; exact ⟨b, vs, e1, e2, by rw [upd_ne (ne b e2)]; exact e3, by rw [eh]; exact r⟩
      | md ds => rw [eq] at p; obtain ⟨b, vs, e1, e2, e3, r⟩ := p; exact ⟨b, vs, e1, e2, by rw [upd_ne (ne b e2)]; exact e3, by rw [eh]; exact r⟩
  · by_cases z : b = a
    · rw [z, upd_same]; simp
    · rw [upd_ne z]; exact (s.own j b e).2
  · have n : b ≠ a := fun z => by
      have := (s.own i a eM).1
      rw [← z, e] at this; cases this
    rw [upd_ne n]; exact s.old b u e
/-- a new one of the frame's own -/
def addM (M : Nat → Option Addr) (i : Nat) (a : Addr) : Nat → Option Addr := fun j => if j = i then some a else M j
theorem addM_ext (x : Ext H H') (hn : H a = none) : Ext (hide (hidOf h M).o H) (hide (hidOf h (addM M i a)).o H') := fun b o e => by
  obtain ⟨n, e⟩ := hide_some e
  rw [hide_of]
  · exact x b o e
  · rintro (z | ⟨j, z⟩)
    · exact n (.inl z)
    · unfold addM at z
      split at z
      · cases z; rw [hn] at e; cases e
      · exact n (.inr ⟨j, z⟩)
theorem StR.mk_new (s : StR K h H0 M H σ env) (x : Ext H H') (hn : H a = none) (ha : H' a ≠ none) (hi : i < σ.length) (q : SlotM K h (addM M i a) H' i (some (some (.ref a))) sl) :
    StR K h H0 (addM M i a) H' (σ.set i (some (.ref a))) (setS env i sl) := by
  have xe := addM_ext (h := h) (M := M) (i := i) x hn
  refine ⟨fun j => ?_, fun j j' b e1 e2 => ?_, fun j b e => ?_, s.old.trans x, s.hok⟩
  · by_cases hj : j = i
    · subst hj
      rw [List.getElem?_set_self hi]
      by_cases hl : j < env.length
      · rw [getS_set_same hl]; exact q
      · rw [getS_out (by rw [setS_length]; omega)]; trivial
    · rw [getS_set_other hj, List.getElem?_set_ne (Ne.symm hj)]
      have p := s.at_ j
      have eM : addM M i a j = M j := if_neg hj
      cases eq : getS env j with
      | no => trivial
      | val d => rw [eq] at p; obtain ⟨u, e1, r⟩ := p; exact ⟨u, e1, Rep.mono xe.le r⟩
      | ml ds => rw [eq] at p; obtain ⟨b, vs, e1, e2, e3, r⟩ := p; exact ⟨b, vs, e1, eM.trans e2, x _ _ e3, Reps.mono xe.le r⟩
      | md ds => rw [eq] at p; obtain ⟨b, vs, e1, e2, e3, r⟩ := p; exact ⟨b, vs, e1, eM.trans e2, x _ _ e3, RepK.mono xe.le r⟩
  · unfold addM at e1 e2
    split at e1 <;> split at e2
    · simp_all
    · cases e1; exact absurd hn (s.own _ _ e2).2
    · cases e2; exact absurd hn (s.own _ _ e1).2
    · exact s.inj _ _ _ e1 e2
  · unfold addM at e
    split at e
    · cases e
      refine ⟨?_, ha⟩
      cases e0 : H0 a with
      | none => rfl
      | some u => rw [s.old a u e0] at hn; cases hn
    · refine ⟨(s.own j b e).1, ?_⟩
      cases e0 : H b with
      | none => exact absurd e0 (s.own j b e).2
      | some u => rw [x b u e0]; simp
end

/-! ### what is new -/
/-- the place of what is new, and its parts -/
def FrR (K : PySem.W.Frag) (O : Hid) (a : Addr) (H : Hp) : D → Prop
  | .lst ds => ∃ vs, H a = some (.lst vs) ∧ Reps K (hide (O.plus a).o H) vs ds
  | .dct ps => ∃ kvs, H a = some (.dK kvs) ∧ RepK K (hide (O.plus a).o H) kvs ps
  | _ => False
def isC : D → Prop
  | .lst _ => True
  | .dct _ => True
  | _ => False
def tF (K : PySem.W.Frag) (Z : Zt) (r : Env → R D) : TE := fun σ H Q => ∃ O env, EnvR K O H σ env ∧ Post (r env) (fun d => isC d ∧ ∀ a H', Ext H H' → H a = none → FrR K O a H' d → Q (.ref a) H') (Z σ H)
section
variable {X : Cx} {XR : Hp → Value → Option Addr → List Nat → List D → Prop} {W : WX} {Z : Zt} {ra : Env → R D} {rs : Env → R (List D)} {e : Expr} {es : List Expr} {pos : Pos} {c : Cls}
theorem pe_lstF (hl : ∀ env ds, rs env = .ok ds → ds.length ≤ 1000) (h : PA X es (tAs X.K Z .clean rs)) :
    PE X (.List es pos) (tF X.K Z fun env => (rs env).bind fun ds => .ok (.lst ds)) := by
  refine pe_mono (pe_lst h) fun σ H Q q => ?_
  obtain ⟨O, env, e, q⟩ := q
  refine ⟨O, env, e, (Post.bind q).imp (fun ds ed q vs H1 x r => ?_) fun _ _ z => z⟩
  have hl := hl env ds ed
  have hr := r.length
  have hs : LN = 16777216 := rfl
  refine ⟨by rw [← LN_eq]; omega, fun p hp => ?_⟩
  have q : isC (.lst ds) ∧ ∀ a H', Ext H H' → H a = none → FrR X.K O a H' (.lst ds) → Q (.ref a) H' := q
  have hp0 : H p = none := by
    cases e0 : H p with
    | none => rfl
    | some u => rw [x p u e0] at hp; cases hp
  exact q.2 p _ (x.trans (Ext.new hp)) hp0 ⟨vs, upd_same, Reps.mono (plus_ext (Ext.new hp) hp).le r⟩
theorem addM_plus {h : Addr → Prop} {M : Nat → Option Addr} {i : Nat} {a : Addr} {H : Hp} : Ext (hide ((hidOf h M).plus a).o H) (hide (hidOf h (addM M i a)).o H) := hide_sub fun b z => by
  rcases z with z | ⟨j, z⟩
  · exact .inl (.inl z)
  · unfold addM at z
    split at z
    · cases z; exact .inr rfl
    · exact .inl (.inr ⟨j, z⟩)
/-- name = a new list or dict -/
theorem asm_red {i : Nat} {D : Ends} {σ : L2.St} {H : Hp} (hi : i < σ.length) (q : tSt X.K XR W (fun env => (ra env).bind fun d => (mslot d).bind fun s => .ok (.nx (setS env i s))) D σ H) :
    tAsg (tF X.K (ZW XR W) ra) (gName i) D σ H := by
  obtain ⟨h, H0, M, env, s, q⟩ := q
  refine ⟨hidOf h M, env, s.envR, (Post.bind q).imp (fun d _ q => ?_) fun c as z => ZS.w s.old z⟩
  cases d with
  | lst ds =>
    refine ⟨trivial, fun a H' x hn f => ?_⟩
    obtain ⟨vs, e1, r⟩ := f
    exact (show EndP X.K h H0 M H D (.nx (setS env i (.ml ds))) from q) (addM M i a) _ H' (s.mk_new x hn (by rw [e1]; simp) hi ⟨a, vs, rfl, if_pos rfl, e1, Reps.mono addM_plus.le r⟩) (addM_ext x hn)
  | dct ps =>
    refine ⟨trivial, fun a H' x hn f => ?_⟩
    obtain ⟨vs, e1, r⟩ := f
    exact (show EndP X.K h H0 M H D (.nx (setS env i (.md ps))) from q) (addM M i a) _ H' (s.mk_new x hn (by rw [e1]; simp) hi ⟨a, vs, rfl, if_pos rfl, e1, RepK.mono addM_plus.le r⟩) (addM_ext x hn)
  | _ => exact (show False from q).elim
theorem ps_asmD {i : Nat} {x : Str} {pos' : Pos} (hN : X.N.Nodup) (hi : X.N[i]? = some x) (hx : Loc X.env.scope x) (he : PE X e (tF X.K (ZW XR W) ra)) (hs : swapsWith e (some (.Name x pos')) pos.line X.env = pure false) (hf : X.fn x = true ∨ X.env.scope.names.lookup x = some .local) :
    PS X (.Assign [.Name x pos'] e pos) (tSt X.K XR W fun env => (ra env).bind fun d => (mslot d).bind fun s => .ok (.nx (setS env i s))) :=
  ps_mono_len (ps_set hN hi hx he hs hf) fun D σ H hl q => asm_red (by rw [hl]; exact (List.getElem?_eq_some_iff.mp hi).1) q

/-! ### changes -/
theorem appS_ok {s s' : Slot} {d : D} (h : appS s d = .ok s') : ∃ ds, s = .ml ds ∧ ds.length < LN ∧ s' = .ml (ds ++ [d]) := by
  cases s <;> simp only [appS] at h <;> try contradiction
  split at h
  · cases h; exact ⟨_, rfl, by assumption, rfl⟩
  · cases h
theorem noX_app (s : Slot) (d : D) : NoX (appS s d) := by
  cases s <;> simp only [appS] <;> first | exact .bad | exact .ite .ok .bad
theorem preL_ok {α : Type} {s : Slot} {f : Unit → R α} {P : α → Prop} {Zq : List Nat → List TQ.D → Prop} (h : Post ((preL s).bind f) P Zq) : ∃ ds, s = .ml ds ∧ Post (f ()) P Zq := by
  cases s with
  | ml ds => exact ⟨ds, rfl, h⟩
  | _ => exact (show False from h).elim
theorem StR.sep {K : PySem.W.Frag} {h : Addr → Prop} {H0 H : Hp} {M : Nat → Option Addr} {σ : L2.St} {env : Env} (s : StR K h H0 M H σ env) {i : Nat} {ds : List TQ.D} (e : getS env i = .ml ds) : ∃ a vs, σ[i]? = some (some (.ref a)) ∧ M i = some a ∧ H a = some (.lst vs) ∧ Reps K (hide (hidOf h M).o H) vs ds := by
  have p := s.at_ i
  rw [e] at p; exact p
theorem app_red {i : Nat} {D : Ends} {σ : L2.St} {H : Hp} (q : tSt X.K XR W (fun env => (preL (getS env i)).bind fun _ => (ra env).bind fun d => (appS (getS env i) d).bind fun s => .ok (.nx (setS env i s))) D σ H) :
    tDrop (tBM X.K "list" rAppend (tVar i) (tCons (tE X.K (ZW XR W) .clean ra) tNil)) D σ H := by
  obtain ⟨h, H0, M, env, s, q⟩ := q
  obtain ⟨ds, e1, q⟩ := preL_ok q
  obtain ⟨a, vs, p1, p2, p3, p4⟩ := s.sep e1
  refine ⟨_, p1, .inl ⟨rfl, vs, SqL.of p3⟩, ?_⟩
  have q : Post ((ra env).bind fun d => (appS (getS env i) d).bind fun s => (.ok (Out.nx (setS env i s)) : R Out)) (EndP X.K h H0 M H D) (ZS XR W H0) := q
  refine st_then s q fun d v H' _ x s' r q => ?_
  cases hm : appS (getS env i) d with
  | bad => rw [hm] at q; exact q.elim
  | exc c as => exact absurd hm (noX_app _ _ c as)
  | ok sl =>
    rw [hm] at q
    obtain ⟨ds', e1', e2, rfl⟩ := appS_ok hm
    rw [e1] at e1'; cases e1'
    have p4 := Reps.mono x.hide.le p4
    refine ⟨a, vs, v, rfl, rfl, x _ _ p3, by rw [p4.length, ← LN_eq]; exact e2, ?_⟩
    have eh : hide (hidOf h M).o (upd H' a (.lst (vs ++ [v]))) = hide (hidOf h M).o H' := hide_upd (.inr ⟨i, p2⟩)
    exact (show EndP X.K h H0 M H D (.nx (setS env i (.ml (ds ++ [d])))) from q) M σ _ (s'.wr p2 ⟨a, vs ++ [v], p1, p2, upd_same, by rw [eh]; exact p4.append (.cons r .nil)⟩) (by rw [eh]; exact x.hide)
theorem extS_ok {s s' : Slot} {d : TQ.D} (h : extS s d = .ok s') : ∃ ds es, s = .ml ds ∧ d = .lst es ∧ ds.length + es.length ≤ LN ∧ s' = .ml (ds ++ es) := by
  cases s <;> cases d <;> simp only [extS] at h <;> try contradiction
  split at h
  · cases h; exact ⟨_, _, rfl, rfl, by assumption, rfl⟩
  · cases h
theorem noX_ext (s : Slot) (d : TQ.D) : NoX (extS s d) := by
  cases s <;> cases d <;> simp only [extS] <;> first | exact .bad | exact .ite .ok .bad
theorem ext_red {i : Nat} {D : Ends} {σ : L2.St} {H : Hp} (q : tSt X.K XR W (fun env => (preL (getS env i)).bind fun _ => (ra env).bind fun d => (extS (getS env i) d).bind fun s => .ok (.nx (setS env i s))) D σ H) :
    tDrop (tBM X.K "list" rExtend (tVar i) (tCons (tE X.K (ZW XR W) .clean ra) tNil)) D σ H := by
  obtain ⟨h, H0, M, env, s, q⟩ := q
  obtain ⟨ds, e1, q⟩ := preL_ok q
  obtain ⟨a, vs, p1, p2, p3, p4⟩ := s.sep e1
  refine ⟨_, p1, .inl ⟨rfl, vs, SqL.of p3⟩, ?_⟩
  have q : Post ((ra env).bind fun d => (extS (getS env i) d).bind fun s => (.ok (Out.nx (setS env i s)) : R Out)) (EndP X.K h H0 M H D) (ZS XR W H0) := q
  refine st_then s q fun d v H' _ x s' r q => ?_
  cases hm : extS (getS env i) d with
  | bad => rw [hm] at q; exact q.elim
  | exc c as => exact absurd hm (noX_ext _ _ c as)
  | ok sl =>
    rw [hm] at q
    obtain ⟨ds', es, e1', rfl, e2, rfl⟩ := extS_ok hm
    rw [e1] at e1'; cases e1'
    have p4 := Reps.mono x.hide.le p4
    cases (show Rep X.K (hide (hidOf h M).o H') v _ from r) with
    | lst b1 b2 =>
    rename_i b ws
    have eb : H' b = some (.lst ws) := hide_ext _ _ b1
    refine ⟨a, b, vs, ws, rfl, rfl, x _ _ p3, eb, by rw [p4.length, b2.length, ← LN_eq]; exact e2, ?_⟩
    have eh : hide (hidOf h M).o (upd H' a (.lst (vs ++ ws))) = hide (hidOf h M).o H' := hide_upd (.inr ⟨i, p2⟩)
    exact (show EndP X.K h H0 M H D (.nx (setS env i (.ml (ds ++ es)))) from q) M σ _ (s'.wr p2 ⟨a, vs ++ ws, p1, p2, upd_same, by rw [eh]; exact p4.append b2⟩) (by rw [eh]; exact x.hide)
section
variable {x : Str} {p1 p2 : Pos} {i : Nat}
theorem ps_appD (hN : X.N[i]? = some x) (hv : Vis X.env.scope x) (hd : (x == ("__debug__" : Str)) = false) (hcd : (x == ("__classdict__" : Str)) = false) {apos cpos : Pos} (he : PE X e (tE X.K (ZW XR W) .clean ra)) (hst : starEach [e] X.env = (false, eval e X.env) :: starEach [] X.env)
    (hline : (apos.endLine == cpos.line) = true) :
    PS X (.Expr (.Call (.Attribute (.Name x p1) "append" apos) [e] [] cpos) pos) (tSt X.K XR W fun env => (preL (getS env i)).bind fun _ => (ra env).bind fun d => (appS (getS env i) d).bind fun s => .ok (.nx (setS env i s))) :=
  ps_mono (ps_expr (pe_bm PySem.F.plainAttrs_list PySem.F.slot_list_append PySem.F.type_list_append mt_append (pe_var hN hv hd hcd) (pa_cons he pa_nil hst) rfl (by rw [hst]; rfl) hline hst rfl) rfl) fun D σ H q => app_red q
theorem ps_extD (hN : X.N[i]? = some x) (hv : Vis X.env.scope x) (hd : (x == ("__debug__" : Str)) = false) (hcd : (x == ("__classdict__" : Str)) = false) {apos cpos : Pos} (he : PE X e (tE X.K (ZW XR W) .clean ra)) (hst : starEach [e] X.env = (false, eval e X.env) :: starEach [] X.env)
    (hline : (apos.endLine == cpos.line) = true) :
    PS X (.Expr (.Call (.Attribute (.Name x p1) "extend" apos) [e] [] cpos) pos) (tSt X.K XR W fun env => (preL (getS env i)).bind fun _ => (ra env).bind fun d => (extS (getS env i) d).bind fun s => .ok (.nx (setS env i s))) :=
  ps_mono (ps_expr (pe_bm PySem.F.plainAttrs_list PySem.F.slot_list_extend PySem.F.type_list_extend mt_extend (pe_var hN hv hd hcd) (pa_cons he pa_nil hst) rfl (by rw [hst]; rfl) hline hst rfl) rfl) fun D σ H q => ext_red q
end
end
end TQ

/-! DS17: translated statements tell what they do. -/
namespace TQ
open PySem PySem.Spec PyProof.Rows L2

structure ToldS (G : Wd) (n : Nat) (W : WX) (X : Cx) (st : Stmt) (s : S) : Prop where
  ps : PS X st (tSt X.K G.XR W (evS (FF G n) s))
section
variable {G : Wd} {C : TC} {n : Nat} {T : TD} {W : WX} {X : Cx} {sc : Scope}

theorem trLS_ok {f : Stmt → Option S} : ∀ {sts : List Stmt} {ss : Ss}, trLS f sts = some ss → (∀ st ∈ sts, ∀ s, f st = some s → PS X st (tSt X.K G.XR W (evS (FF G n) s))) → PSs X sts (tSt X.K G.XR W (evSs (FF G n) ss))
  | [], ss, h, _ => by cases h; exact pss_nilD
  | st :: sts, ss, h, ih => by
    obtain ⟨a, h1, h⟩ := Option.bind_eq_some_iff.mp h
    obtain ⟨as, h2, h⟩ := Option.bind_eq_some_iff.mp h
    cases h
    exact pss_consD (ih st List.mem_cons_self a h1) (trLS_ok h2 fun st hs => ih st (List.mem_cons_of_mem _ hs))
theorem isClean_eq {c : Cls} (h : isClean c = true) : c = .clean := by cases c <;> first | rfl | cases h
structure AtS (G : Wd) (C : TC) (n : Nat) (N : List Str) (W : WX) (X : Cx) (sc : Scope) : Prop where
  at_ : At G C n N W X sc
  own : PassesOwn (model X.prog X.w) X.A X.env X.xe
  fnT : ∀ x, X.fn x = true
theorem AtS.sto {N : List Str} (a : AtS G C n N W X sc) {x : Str} (h : storeOk sc x = true) : StOk X x := by
  refine ⟨?_, .inl (a.fnT x)⟩
  unfold storeOk at h
  rw [fl_eq] at h
  unfold L2.Loc
  rw [a.at_.esc]
  split at h
  · exact .inl (by assumption)
  · exact .inr (by assumption)
  · cases h
theorem isLoc_ok {sc : Scope} {x : Str} (h : isLoc sc x = true) : sc.names.lookup x = some .local := by
  unfold isLoc at h
  rw [fl_eq] at h
  split at h <;> first | assumption | cases h
theorem okE_swapN {e : Expr} (h : okE e = true) (hc : ∀ a b c d, e ≠ .ListComp a b c d) (t : Option Expr) (l : Nat) (env : PySem.Env) : swapsWith e t l env = pure false := by
  cases e <;> first | rfl | exact absurd rfl (hc _ _ _ _) | cases h
/-- the parts of a comprehension -/
theorem comp_parts {k : Nat} {elt tg iter : Expr} {ifs : List Expr} {scope : Scope} {pos : Pos} {E : E} (a : At G C n T.N W X sc) (h : tr C T (k + 1) sc (.ListComp elt [⟨tg, iter, ifs, 0⟩] scope pos) = some E) :
    ∃ own it t cs x, E = .comp x t it cs ∧ PI X tg iter (tI X.K (ZW G.XR W) (clI it) (evI (FF G n) it)) ∧ BlkOk X.N X.env.scope scope own ∧ (∀ i ∈ slT t, ∃ p ∈ own, p.2 = i) ∧ (∀ p ∈ own, X.N[p.2]? = some p.1 ∧ p.2 ∈ slT t) ∧
      (∀ (s : Shared) (H : Hp) (D : Addr) (cl : List (Str × Addr)) (fp : List Addr), PG (X.blk s H scope (compEnvC scope cl D X.env) fp) tg (gTg X.K t)) ∧
      (∀ (s : Shared) (H : Hp) (D : Addr) (cl : List (Str × Addr)) (fp : List Addr), PTs (X.blk s H scope (compEnvC scope cl D X.env) fp) ifs (tB' X.K (ZW G.XR fun _ _ _ _ => False) (evC (FF G n) cs))) ∧
      (∀ (s : Shared) (H : Hp) (D : Addr) (cl : List (Str × Addr)) (fp : List Addr), PE (X.blk s H scope (compEnvC scope cl D X.env) fp) elt (tE X.K (ZW G.XR fun _ _ _ _ => False) (clE x) (evE (FF G n) x))) ∧ okE iter = true := by
  have ih : ∀ e E, tr C T k sc e = some E → Told G n W X e E := fun e E h => tr_ok k sc W X e E a h
  replace h : ((namesT T.N 9 tg).bind fun own =>
      if own.all (fun p => storeOk scope p.1) && blkB T.N sc scope own then
      (trI C (tr C T k sc) sc iter).bind fun it => (trT T.N [] 9 tg).bind fun t =>
      (match ifs with
        | [] => some Es.nil
        | [c] => (tr C T k (relT scope sc) c).map fun x => Es.cons x .nil
        | _ => none).bind fun cs => (tr C T k (relT scope sc) elt).bind fun x => if notLeaky (clI it) then some (.comp x t it cs) else none
      else none) = some E := h
  obtain ⟨own, h1, h⟩ := Option.bind_eq_some_iff.mp h
  split at h
  · rename_i hs
    rw [Bool.and_eq_true, List.all_eq_true] at hs
    obtain ⟨it, h2, h⟩ := Option.bind_eq_some_iff.mp h
    obtain ⟨t, h3, h⟩ := Option.bind_eq_some_iff.mp h
    obtain ⟨cs, h4, h⟩ := Option.bind_eq_some_iff.mp h
    obtain ⟨x, h5, h⟩ := Option.bind_eq_some_iff.mp h
    split at h
    · rename_i hcl
      cases h
      have blk := fun (s : Shared) (H : Hp) (D : Addr) (cl : List (Str × Addr)) (fp : List Addr) => a.blk (scope := scope) s H cl D fp
      have hpg : ∀ (s : Shared) (H : Hp) (D : Addr) (cl : List (Str × Addr)) (fp : List Addr), PG (X.blk s H scope (compEnvC scope cl D X.env) fp) tg (gTg X.K t) ∧ (∀ i ∈ slT t, ∃ p ∈ own, p.2 = i) ∧ ∀ p ∈ own, X.N[p.2]? = some p.1 ∧ p.2 ∈ slT t := fun s H D cl fp =>
        pg_of (X := X.blk s H scope (compEnvC scope cl D X.env) fp) (mu := []) a.calm (by show X.N.Nodup; rw [a.eN]; exact a.nd) 9 tg t own (by show trT X.N [] 9 tg = _; rw [a.eN]; exact h3) (by show namesT X.N 9 tg = _; rw [a.eN]; exact h1) fun p hp => storeOk_ok (hs.1 p hp)
      obtain ⟨s0, hs1, hs2⟩ : ∃ s0 : Unit, (∀ i ∈ slT t, ∃ p ∈ own, p.2 = i) ∧ ∀ p ∈ own, X.N[p.2]? = some p.1 ∧ p.2 ∈ slT t := ⟨(), (hpg ⟨X.base, #[], X.s_0.drawn, 0, X.s_0.os⟩ (fun _ => none) 0 [] []).2⟩
      have ti := trI_ok (tg := tg) a h2 ih hcl
      refine ⟨own, it, t, cs, x, rfl, ti.1, by rw [a.esc, a.eN]; exact blkB_ok hs.2 fun p hp => by rw [← a.eN]; exact (hs2 p hp).1, hs1, hs2, fun s H D cl fp => (hpg s H D cl fp).1, ?_, fun s H D cl fp => (tr_ok k (relT scope sc) _ _ elt x (blk s H D cl fp) h5).pe, ti.2⟩
      intro s H D cl fp
      split at h4
      · cases h4
        refine ⟨fun pins s σ H Q I q => pts_nil.run pins s σ H Q I ?_⟩
        obtain ⟨O, env, en, q⟩ := q
        exact (show ∀ H', Ext H H' → Q true H' from q) H Ext.refl
      · obtain ⟨y, h6, rfl⟩ := Option.map_eq_some_iff.mp h4
        exact pts_one (tr_ok k (relT scope sc) _ _ _ y (blk s H D cl fp) h6).pt
      · cases h4
    · cases h
  · cases h

theorem tEC_ofF {K : PySem.W.Frag} {Z : Zt} {r : Env → R D} {σ : L2.St} {H : Hp} {Q : VK} (q : tF K Z r σ H Q) : tEC K Z .clean r σ H Q := by
  obtain ⟨O, env, en, q⟩ := q
  refine ⟨O, env, en, q.imp (fun d _ q xs e a vs H' x hn _ h1 h4 => ?_) fun _ _ z => z⟩
  subst e
  exact q.2 a H' x hn ⟨vs, h1, h4⟩
theorem comp_shape {k : Nat} {elt : Expr} {gs : List Comprehension} {scope : Scope} {pos : Pos} {E : E} (h : tr C T k sc (.ListComp elt gs scope pos) = some E) : ∃ k' tg iter ifs, k = k' + 1 ∧ gs = [⟨tg, iter, ifs, 0⟩] := by
  cases k with
  | zero => cases h
  | succ k =>
    rcases gs with _ | ⟨⟨tg, iter, ifs, (_ | m) | m⟩, _ | ⟨g, gs⟩⟩ <;> first | exact ⟨k, tg, iter, ifs, rfl, rfl⟩ | exact nomatch (show (none : Option TQ.E) = some E from h)
theorem swaps_comp {elt : Expr} {gs : List Comprehension} {scope : Scope} {pos p : Pos} {x : Str} {l : Nat} {env : PySem.Env} : ∃ b, swapsWith (.ListComp elt gs scope pos) (some (.Name x p)) l env = pure b ∧ (b = true → env.scope.names.lookup x = some .local) := by
  refine ⟨_, rfl, fun h => ?_⟩
  simp only [Bool.and_eq_true] at h
  have h := h.1.1.2
  have h : (env.scope.names.lookup x == some .local) = true := h
  cases e : env.scope.names.lookup x with
  | none => rw [e] at h; cases h
  | some k => rw [e] at h; cases k <;> first | rfl | cases h
theorem ps_setC {i k : Nat} {x : Str} {p pos spos : Pos} {elt : Expr} {gs : List Comprehension} {scope : Scope} {E : E} {u : TS} (a : At G C n T.N W X sc) (h : tr C T k sc (.ListComp elt gs scope pos) = some E) (hi : X.N[i]? = some x) (hL : StOk X x)
    (hu : ∀ it t cs y, E = .comp y t it cs → ∀ D σ H, σ.length = X.N.length → u D σ H → tAsg (tEC X.K (ZW G.XR W) ((clE y).arg .clean) (evE (FF G n) E)) (gName i) D σ H) :
    PS X (.Assign [.Name x p] (.ListComp elt gs scope pos) spos) u := by
  obtain ⟨k', tg, iter, ifs, rfl, rfl⟩ := comp_shape h
  obtain ⟨own, it, t, cs, y, rfl, c1, c2, c3, c4, c5, c6, c7, c8⟩ := comp_parts a h
  have nd : X.N.Nodup := by rw [a.eN]; exact a.nd
  have red : ∀ D σ H, σ.length = X.N.length → u D σ H → tAsg (tLc (tI X.K (ZW G.XR W) (clI it) (evI (FF G n) it)) (gTg X.K t) (tB' X.K (ZW G.XR fun _ _ _ _ => False) (evC (FF G n) cs)) (tE X.K (ZW G.XR fun _ _ _ _ => False) (clE y) (evE (FF G n) y)) (own.map (·.2))) (gName i) D σ H := fun D σ H hl q =>
    comp_red hl c3 c4 (hu it t cs y rfl D σ H hl q)
  obtain ⟨b, hb, hbl⟩ := swaps_comp (elt := elt) (gs := [⟨tg, iter, ifs, 0⟩]) (scope := scope) (pos := pos) (p := p) (x := x) (l := spos.line) (env := X.env)
  cases b with
  | true => exact ps_mono_len (ps_setLc a.calm nd hi (hbl rfl) hb c1 c2 c5 c6 c7 (okE_fold c8 X.env)) red
  | false => exact ps_mono_len (ps_set nd hi hL.loc (pe_lc a.calm nd c1 c2 c5 c6 c7 (okE_fold c8 X.env)) hb hL.fn) red
theorem At.less (a : At G C n T.N W X sc) (fz : List Nat) : At G C n (T.less fz).N W X sc := a
theorem trS_ok : ∀ (k : Nat) (sc : Scope) (W : WX) (X : Cx) (st : Stmt) (s : S), AtS G C n T.N W X sc → trS C T k sc st = some s → PS X st (tSt X.K G.XR W (evS (FF G n) s))
  | 0, _, _, _, _, _, _, h => by cases h
  | k + 1, sc, W, X, st, s, a, h => by
    have a' := a.at_
    have ih : ∀ st s, trS C T k sc st = some s → PS X st (tSt X.K G.XR W (evS (FF G n) s)) := fun st s h => trS_ok k sc W X st s a h
    have ihs : ∀ {sts ss}, trLS (trS C T k sc) sts = some ss → PSs X sts (tSt X.K G.XR W (evSs (FF G n) ss)) := fun h => trLS_ok h fun st _ s h => ih st s h
    have ihe : ∀ e E, tr C T k sc e = some E → Told G n W X e E := fun e E h => tr_ok k sc W X e E a' h
    unfold trS at h
    split at h
    · -- return
      obtain ⟨E, h1, rfl⟩ := Option.map_eq_some_iff.mp h
      exact ps_retD (ihe _ _ h1).pe
    · cases h; exact ps_retND
    · cases h; exact ps_passD
    · -- if
      obtain ⟨x, h1, h⟩ := Option.bind_eq_some_iff.mp h
      obtain ⟨y, h2, h⟩ := Option.bind_eq_some_iff.mp h
      obtain ⟨z, h3, rfl⟩ := Option.map_eq_some_iff.mp h
      exact ps_ifD (ihe _ _ h1).pt (ihs h2) (ihs h3)
    · -- while
      obtain ⟨x, h1, h⟩ := Option.bind_eq_some_iff.mp h
      obtain ⟨y, h2, rfl⟩ := Option.map_eq_some_iff.mp h
      exact ps_whileD a.own (ihe _ _ h1).pt (ihs h2)
    · -- for
      rename_i tg it b pos
      obtain ⟨own, h1, h⟩ := Option.bind_eq_some_iff.mp h
      split at h
      · rename_i hs
        rw [List.all_eq_true] at hs
        obtain ⟨i, h2, h⟩ := Option.bind_eq_some_iff.mp h
        obtain ⟨t, h3, h⟩ := Option.bind_eq_some_iff.mp h
        obtain ⟨y, h4, h⟩ := Option.bind_eq_some_iff.mp h
        split at h
        · rename_i hcl
          cases h
          have hcl := isClean_eq hcl
          have pg := pg_of (X := X) (mu := T.mu) a'.calm (by rw [a'.eN]; exact a'.nd) 9 tg t own (by rw [a'.eN]; exact h3) (by rw [a'.eN]; exact h1) fun p hp => a.sto (hs p hp)
          have ti := trI_ok (T := T.less (fzE T.N T.mu 9 it)) (W := W) (tg := tg) (a'.less _) h2 (fun e E h => tr_ok (T := T.less (fzE T.N T.mu 9 it)) k sc W X e E (a'.less _) h) (by rw [hcl]; rfl)
          rw [hcl] at ti
          refine ps_forD (fun j hj => ?_) a.own a'.calm ti.1 pg.1 (ihs h4) (okE_fold ti.2 X.env)
          obtain ⟨p, hp, rfl⟩ := pg.2.1 j hj
          exact (List.getElem?_eq_some_iff.mp (pg.2.2 p hp).1).1
        · cases h
      · cases h
    · -- name = e
      rename_i x p e pos
      split at h
      · rename_i hx
        obtain ⟨y, h1, h⟩ := Option.bind_eq_some_iff.mp h
        obtain ⟨i, h2, h⟩ := Option.bind_eq_some_iff.mp h
        split at h
        · rename_i hcl
          have hcl := isClean_eq hcl
          have t := ihe _ _ h1
          have hi : X.N[i]? = some x := by rw [a'.eN]; exact ixOf_at h2
          have hlt : i < X.N.length := (List.getElem?_eq_some_iff.mp hi).1
          have hL : StOk X x := a.sto hx
          have nd : X.N.Nodup := by rw [a'.eN]; exact a'.nd
          split at h
          · rename_i hm
            rw [Bool.and_eq_true] at hm
            cases h
            cases e with
            | ListComp elt gs scope pos' =>
              refine ps_setC (u := tSt X.K G.XR W (evS (FF G n) (.asm i y))) a' h1 hi hL fun it t' cs z e D σ H hl q => ?_
              subst e
              rw [show (clE z).arg .clean = .clean from hcl]
              obtain ⟨O, env, en, q⟩ := asm_red (by rw [hl]; exact hlt) q
              exact tEC_ofF ⟨O, env, en, q⟩
            | List es pos' =>
              cases k with
              | zero => cases h1
              | succ k =>
                replace h1 : (if es.length ≤ 1000 then (trL (tr C T k sc) es).map .lst else none) = some y := h1
                split at h1
                · rename_i hlen
                  obtain ⟨Es', h3, rfl⟩ := Option.map_eq_some_iff.mp h1
                  obtain ⟨q1, q2, q3⟩ := trL_ok h3 fun e _ E h => tr_ok k sc W X e E a' h
                  have hcl : clEs Es' = .clean := hcl
                  rw [hcl] at q1
                  exact ps_asmD nd hi hL.loc (pe_lstF (fun env ds ed => by rw [evEs_len ed, q2]; exact hlen) q1) rfl hL.fn
                · cases h1
            | _ => exact absurd hm.2 Bool.false_ne_true
          · cases h
            by_cases hc : ∃ a b c d, e = .ListComp a b c d
            · obtain ⟨elt, gs, scope, pos', rfl⟩ := hc
              refine ps_setC (u := tSt X.K G.XR W (evS (FF G n) (.asg (.nm i) y))) a' h1 hi hL fun it t' cs z e D σ H hl q => ?_
              subst e
              rw [show (clE z).arg .clean = .clean from hcl]
              have := tgt_red (t := .nm i) (ra := evE (FF G n) (.comp z t' it cs)) (fun j hj => by rw [List.mem_singleton.mp hj]; exact hlt) hl q
              exact tEC_of (by decide) this
            · have te := t.pe
              rw [hcl] at te
              refine ps_mono_len (ps_set nd hi hL.loc te (okE_swapN t.ok (fun a b c d e => hc ⟨a, b, c, d, e⟩) _ _ _) hL.fn) fun D σ H hl q => ?_
              exact tgt_red (t := .nm i) (fun j hj => by rw [List.mem_singleton.mp hj]; exact hlt) hl q
        · cases h
      · cases h
    · -- names = e
      rename_i ts kk p e pos
      split at h
      · cases h
      · cases h
      · rename_i ht hlc
        obtain ⟨own, h1, h⟩ := Option.bind_eq_some_iff.mp h
        split at h
        · rename_i hs
          rw [List.all_eq_true] at hs
          obtain ⟨y, h2, h⟩ := Option.bind_eq_some_iff.mp h
          obtain ⟨t, h3, h⟩ := Option.bind_eq_some_iff.mp h
          split at h
          · rename_i hcl
            cases h
            have hcl := isClean_eq hcl
            have te := (ihe _ _ h2).pe
            have ok := (ihe _ _ h2).ok
            rw [hcl] at te
            have pg := pg_of (X := X) (mu := T.mu) a'.calm (by rw [a'.eN]; exact a'.nd) 9 (.Tuple ts kk p) t own (by rw [a'.eN]; exact h3) (by rw [a'.eN]; exact h1) fun p hp => a.sto (hs p hp)
            refine ps_asgD (fun j hj => ?_) te pg.1 (show swapsWith e (some (.Tuple ts kk p)) pos.line X.env = pure false from okE_swapN ok (fun a b c d e => hlc a b c d e) _ _ _) ?_ rfl
            · obtain ⟨p, hp, rfl⟩ := pg.2.1 j hj
              exact (List.getElem?_eq_some_iff.mp (pg.2.2 p hp).1).1
            · cases e <;> first | rfl | exact absurd rfl (ht _ _ _)
          · cases h
        · cases h
    · -- a change
      rename_i x p m apos b cpos pos
      split at h
      · rename_i hx
        simp only [Bool.and_eq_true, Bool.not_eq_true'] at hx
        obtain ⟨⟨⟨hx1, hx2⟩, hx3⟩, hx4⟩ := hx
        have hd1 : (x == ("__debug__" : Str)) = false := by rw [← sEq_eq]; exact hx3
        have hd2 : (x == ("__classdict__" : Str)) = false := by rw [← sEq_eq]; exact hx4
        obtain ⟨i, h1, h⟩ := Option.bind_eq_some_iff.mp h
        have hi : X.N[i]? = some x := by rw [a'.eN]; exact ixOf_at h1
        by_cases hm : sEq m "append" = true
        · skip
          rw [if_pos hm] at h
          have hm := sEq_iff.mp hm
          obtain ⟨y, h2, h⟩ := Option.bind_eq_some_iff.mp h
          by_cases hcl : isClean (clE y) = true
          · rw [if_pos hcl] at h
            cases h
            have te := (ihe _ _ h2).pe
            rw [isClean_eq hcl] at te
            rw [hm]
            exact ps_appD hi (a'.vis hx2) hd1 hd2 te (okE_star (ihe _ _ h2).ok [] X.env) hx1
          · rw [if_neg hcl] at h; cases h
        · rw [if_neg hm] at h
          by_cases hm : sEq m "extend" = true
          · skip
            rw [if_pos hm] at h
            have hm := sEq_iff.mp hm
            obtain ⟨y, h2, h⟩ := Option.bind_eq_some_iff.mp h
            by_cases hcl : isClean (clE y) = true
            · rw [if_pos hcl] at h
              cases h
              have te := (ihe _ _ h2).pe
              rw [isClean_eq hcl] at te
              rw [hm]
              exact ps_extD hi (a'.vis hx2) hd1 hd2 te (okE_star (ihe _ _ h2).ok [] X.env) hx1
            · rw [if_neg hcl] at h; cases h
          · rw [if_neg hm] at h; cases h
      · cases h
    · cases h
end
end TQ

/-! DS18: defs keep their promises; the world of a row. -/
namespace TQ
open PySem PySem.Spec PyProof.Rows L2

theorem start_at {N : List Str} {vs : List V} (i : Nat) : (L2.start N vs)[i]? = match vs[i]? with
    | some v => some (some v)
    | none => if i < vs.length + (N.length - vs.length) then some none else none := by
  unfold L2.start
  by_cases h : i < vs.length
  · rw [List.getElem?_append_left (by simpa using h), List.getElem?_map, List.getElem?_eq_getElem h]; rfl
  · rw [List.getElem?_append_right (by simpa using h), List.getElem?_replicate, List.getElem?_eq_none (by omega)]
    simp only [List.length_map]
    by_cases q : i < vs.length + (N.length - vs.length)
    · rw [if_pos q, if_pos (by omega)]
    · rw [if_neg q, if_neg (by omega)]
theorem getS_start {fn : Fn} {args : List D} (i : Nat) : getS (startE fn args) i = match args[i]? with
    | some d => .val d
    | none => .no := by
  have key : ∀ (args : List D) (k i : Nat), getS (args.map .val ++ List.replicate k .no) i = match args[i]? with
      | some d => .val d
      | none => .no := by
    intro args
    induction args with
    | nil =>
      intro k
      induction k with
      | zero => intro i; rfl
      | succ k ih => intro i; cases i with
        | zero => rfl
        | succ i => exact ih i
    | cons d ds ih => intro k i; cases i with
      | zero => rfl
      | succ i => exact ih k i
  exact key args _ i
theorem Rep.at {K : PySem.W.Frag} {H : Hp} {vs : List V} {ds : List D} (r : Reps K H vs ds) {i : Nat} {d : D} (h : ds[i]? = some d) : ∃ v, vs[i]? = some v ∧ Rep K H v d := r.get h
/-- the state at a def's entry -/
theorem StR.start {K : PySem.W.Frag} {h : Addr → Prop} {H : Hp} {N : List Str} {fn : Fn} {vs : List V} {args : List D} (ho : ∀ a, h a → H a ≠ none) (r : Reps K (hide h H) vs args) :
    StR K h H (fun _ => none) H (L2.start N vs) (startE fn args) := by
  have e : (hidOf h fun _ => none).o = h := by
    funext a
    exact propext ⟨fun z => z.elim id (fun ⟨_, z⟩ => nomatch z), Or.inl⟩
  refine ⟨fun i => ?_, fun _ _ _ z => (nomatch z), fun _ _ z => (nomatch z), Ext.refl, ho⟩
  rw [getS_start, start_at]
  cases ha : args[i]? with
  | none => exact trivial
  | some d =>
    obtain ⟨v, hv, rv⟩ := r.get ha
    rw [hv]
    exact ⟨v, rfl, by rw [e]; exact rv⟩
section
variable {G : Wd} {C : TC} {n : Nat}
theorem spF_len {f : Nat} {np : Nat} (hn : ∀ fn, G.T f = some fn → fn.np = np) : ∀ vs H Q E, spF G n f vs H Q E → vs.length = np := by
  intro vs H Q E ⟨h, args, ho, r, q⟩
  rw [r.length]
  cases n with
  | zero => exact (show False from q).elim
  | succ n =>
    rw [callN_succ] at q
    cases hT : G.T f with
    | none => rw [hT] at q; exact (show False from q).elim
    | some fn =>
      rw [hT] at q
      have q : Post (runF (callN G.T n) fn args) _ _ := q
      unfold runF at q
      split at q
      · rename_i e; rw [e]; exact hn fn hT
      · exact (show False from q).elim
theorem def_ok {f : Nat} {a : Addr} {fd : FuncData} {x qual : Str} {params : Arguments} {body : List Stmt} {scope : Scope} {N ps : List Str} {mu : List Nat} {fn : Fn} (F : FunD G.K x qual params body scope [] [] a fd) (S : FnScope N ps scope)
    (hT : G.T f = some fn) (hnp : fn.np = ps.length) (hnl : fn.nl = N.length) (ht : trB C ⟨N, mu⟩ scope body = some fn.body) (wd : WdOk G C n) :
    FnOk G.P G.w G.K G.mg G.base (L2.CX G.P G.w) (n + 1) a fd ps (spF G (n + 1) f) := by
  refine F.ok S (spF_len fun fn' e => by rw [hT] at e; cases e; exact hnp) fun cdv A outer s H vs Q E hr hsp => ?_
  obtain ⟨h, args, ho, r, q⟩ := hsp
  have at_ : AtS G C n N (fun cls dd _ H' => E cls dd H') (cxOf (L2.CX G.P G.w) G.P G.w G.K G.mg G.base N qual scope a cdv A outer s H E) scope :=
    ⟨⟨rfl, rfl, rfl, rfl, rfl, rfl, S.nd, rfl, rfl, hr, takes_of rfl rfl rfl rfl, wd⟩, passes_of rfl, fun _ => rfl⟩
  refine ⟨_, trLS_ok ht fun st _ s hs => trS_ok (T := ⟨N, mu⟩) 99 scope _ _ st s at_ hs, h, H, fun _ => none, startE fn args, StR.start ho r, ?_⟩
  have eo : (hidOf h fun _ => none).o = h := by
    funext a
    exact propext ⟨fun z => z.elim id (fun ⟨_, z⟩ => nomatch z), Or.inl⟩
  rw [callN_succ, hT] at q
  have q : Post (runF (callN G.T n) fn args) (fun d => ∀ v H', Ext H H' → Rep G.K (hide h H') v d → Q v H') (fun c as => ∀ cls dd H', Ext H H' → G.XR H' cls dd c as → E cls dd H') := q
  unfold runF at q
  split at q
  · refine (Post.bind q).imp (fun o _ q => ?_) fun c as z cls dd σ' H' x xr => z cls dd H' x xr
    cases o with
    | nx env' => exact fun M' σ' H' s' x => (show ∀ v H', Ext H H' → Rep G.K (hide h H') v .non → Q v H' from q) .non H' s'.old .non
    | rt d => exact fun v H' x r => (show ∀ v H', Ext H H' → Rep G.K (hide h H') v d → Q v H' from q) v H' x r
  · exact (show False from q).elim

/-! ### a row's defs -/
structure Row where
  x : Str
  f : Nat
  N : List Str
  np : Nat
  mu : List Nat
  d : He.DefD
def scB (N P : List Str) (sc : Scope) : Bool :=
  decide (sc.kind = .function) && !sc.isCoroutine && !sc.isGenerator && decide N.Nodup && decide (N.take P.length = P) && P.all (fun x => decide (sc.names.lookup x = some .local) || decide (sc.names.lookup x = some .cell)) && sc.names.all (fun y => !decide (y.2 = .free))
theorem scB_ok {N P : List Str} {sc : Scope} (h : scB N P sc = true) : FnScope N P sc := by
  unfold scB at h
  simp only [Bool.and_eq_true, Bool.not_eq_true', decide_eq_true_eq, List.all_eq_true, Bool.or_eq_true, decide_eq_false_iff_not] at h
  obtain ⟨⟨⟨⟨⟨⟨h1, h2⟩, h3⟩, h4⟩, h5⟩, h6⟩, h7⟩ := h
  exact ⟨h1, h2, h3, h4, h5, h6, h7⟩

structure RowP (C : TC) (T : Nat → Option Fn) (r : Row) : Prop where
  at_ : r.d.at_ = (r.x, none)
  dfl : r.d.dfl = []
  kwd : r.d.kwd = []
  sc : FnScope r.N (r.N.take r.np) r.d.scope
  tr : ∃ fn, T r.f = some fn ∧ fn.np = (r.N.take r.np).length ∧ fn.nl = r.N.length ∧ trB C ⟨r.N, r.mu⟩ r.d.scope r.d.body = some fn.body
  bn : ∀ (kV doc pm : Value) (an : Option Addr) (cdv ct : Value) (us : List Value), us.length = (r.N.take r.np).length → bindArgs (PySem.W.fnOf r.d.name r.d.qual r.d.params r.d.body r.d.scope .none kV doc pm an cdv ct) ⟨us, []⟩ = pure ((r.N.take r.np).zip us)
def AllP (P : Row → Prop) : List Row → Prop
  | [] => True
  | r :: rs => P r ∧ AllP P rs
theorem AllP.mem {P : Row → Prop} : ∀ {rs : List Row}, AllP P rs → ∀ r ∈ rs, P r
  | _ :: _, h, _, .head _ => h.1
  | _ :: _, h, _, .tail _ m => AllP.mem h.2 _ m
theorem lookup_mem {α : Type} {l : List (Str × α)} {x : Str} {v : α} (h : l.lookup x = some v) : (x, v) ∈ l := PySem.mem_of_lookup h
def faOf (rows : List Row) (fr : List Str) : List He.Fa := rows.map (fun r => .glo r.x) ++ fr.map .free
theorem fact_mem {fa : List He.Fa} {fn : List He.DefD} {K : PySem.W.Frag} (c : He.SaysD fa fn K) {f : He.Fa} (h : f ∈ fa) : f.ok K = true := by
  obtain ⟨i, hi⟩ := List.getElem?_of_mem h
  exact c.fact i hi
theorem def_mem {fa : List He.Fa} {fn : List He.DefD} {K : PySem.W.Frag} (c : He.SaysD fa fn K) {d : He.DefD} (h : d ∈ fn) : ∃ fd, FunD K d.name d.qual d.params d.body d.scope (d.dvs K) (d.kws K) (He.fAd K d.at_) fd := by
  obtain ⟨i, hi⟩ := List.getElem?_of_mem h
  exact c.def_ i hi
theorem row_fun {fa : List He.Fa} {rows : List Row} {K : PySem.W.Frag} {C : TC} {T : Nat → Option Fn} (c : He.SaysD fa (rows.map (·.d)) K) {r : Row} (hr : r ∈ rows) (p : RowP C T r) : ∃ fd, FunD K r.d.name r.d.qual r.d.params r.d.body r.d.scope [] [] (He.ga K r.x) fd := by
  obtain ⟨fd, F⟩ := def_mem c (List.mem_map_of_mem hr)
  refine ⟨fd, ?_⟩
  have e1 : r.d.dvs K = [] := by unfold He.DefD.dvs; rw [p.dfl]; rfl
  have e2 : r.d.kws K = [] := by unfold He.DefD.kws; rw [p.kwd]; rfl
  rw [e1, e2, p.at_] at F
  exact F
theorem wd_of {P : Program} {w : World} {K : PySem.W.Frag} {mg : Str → Option Value} {h base : Heap} {T : Nat → Option Fn} {XR : Hp → Value → Option Addr → List Nat → List D → Prop} {rows : List Row} {fr : List Str} (X : K.In h) (Gn : h.Ns mainGlobals mg)
    (c : He.SaysD (faOf rows fr) (rows.map (·.d)) K) (hp : AllP (RowP C T) rows) (hC : C.nm = rows.map fun r => (r.x, r.f)) (hcm : C.cm = []) (hfr : C.fr = fr) : ∀ n, WdOk ⟨P, w, K, mg, base, T, XR⟩ C n := by
  have cn : ∀ x d, C.cm.lookup x = some d → ∃ (u : Value) (v : V), mg x = some u ∧ RelV v u ∧ ∀ H, Rep K H v d := fun x d h => by rw [hcm] at h; cases h
  have fr' : ∀ x ∈ C.fr, mg x = none := fun x hx => He.free_ok X Gn (fact_mem c (List.mem_append_right _ (List.mem_map_of_mem (by rw [hfr] at hx; exact hx))))
  have base : ∀ x f, C.nm.lookup x = some f → ∃ r fd, r ∈ rows ∧ r.f = f ∧ RowP C T r ∧ mg x = some (.ref (He.ga K r.x)) ∧ FunD K r.d.name r.d.qual r.d.params r.d.body r.d.scope [] [] (He.ga K r.x) fd := fun x f h => by
    rw [hC] at h
    obtain ⟨r, hr, e⟩ := List.mem_map.mp (lookup_mem h)
    cases e
    have p := hp.mem r hr
    obtain ⟨fd, F⟩ := row_fun c hr p
    exact ⟨r, fd, hr, rfl, p, He.glo_ok X Gn (fact_mem c (List.mem_append_left _ (List.mem_map_of_mem hr))), F⟩
  intro n
  induction n with
  | zero =>
    refine ⟨fun x f h => ?_, cn, fr'⟩
    obtain ⟨r, fd, hr, rfl, p, e, F⟩ := base x f h
    exact ⟨_, fd, _, e, F.kp, F.bindsN p.bn, ⟨fun vs H Q E ⟨_, _, _, _, q⟩ => (show False from q).elim, fun A outer s H args us vs Q E hr e0 hb r ⟨_, _, _, _, q⟩ => (show False from q).elim⟩⟩
  | succ n ih =>
    refine ⟨fun x f h => ?_, cn, fr'⟩
    obtain ⟨r, fd, hr, rfl, p, e, F⟩ := base x f h
    obtain ⟨fn, t1, t2, t3, t4⟩ := p.tr
    exact ⟨_, fd, _, e, F.kp, F.bindsN p.bn, def_ok F p.sc t1 t2 t3 t4 ih⟩
/-- a law by what its last def tells -/
theorem walk_ofW {l : PySem.W.OpenLaw} {n k : Nat} {q : Program} {loose : List Str} {XP : (Str → Option Value) → Heap → Prop} {YP : World → Heap → Prop} {d : DefRec} {CX : World → CXT} {x : Str}
    (hn : l.most = some n) (hn2 : n ≤ sizeLine) (hdf : d.params.defaults = []) (hr : Room k callerA)
    (F : ∀ (w : World) (mg : Str → Option Value) (fa : Addr) (h : Heap), YP w h → h.Ns mainGlobals mg → mg d.name = some (.ref fa) →
      ∃ (K : PySem.W.Frag) (fd : FuncData) (sp : Sp), K.In h ∧ (∀ (s : Shared) (u : Value), BindsTo s fd ⟨[u], []⟩ [(x, u)]) ∧
        (∀ (H : Hp) (a : Addr) (ns : List Int), ns.length ≤ n → Only H → SqL K H a (ns.map V.int) → sp [.ref a] H (fun v _ => v = .bl true) fun _ _ _ => False) ∧
        ∀ base : Heap, K.In base → base.Ns mainGlobals mg → FnOk l.prog w K mg base (CX w) k fa fd [x] sp)
    (hCX : ∀ (w : World) (H : Hp) (s : Shared) (e : Value) (s' : Shared), CX w [] H s (fun _ _ _ => False) e s' → False) :
    PySem.W.WalkO q loose XP YP l.row.toRowW d [] (fun f vs => PySem.call f vs) := by
  refine Att.attach_call hn hdf fun w s₀ s₁ mg mb fa o pm cd doc a vs ns G Y ho hd hcd hmg hobj hints hlen hg => ?_
  obtain ⟨K, fd, sp, KX, hb, hsp, hF⟩ := F w mg fa _ Y G.T.g hmg
  exact law_call KX G.T.g G.T.b G.T.builtins G.T.nolimit hg hobj hints (Nat.le_trans hlen hn2) hr hF hb (fun H hO hS => hsp H a ns hlen hO hS) fun H e s' => hCX w H s₁ e s'
theorem law_spF {G : Wd} {k f n : Nat} (hl : ∀ ns : List Int, ns.length ≤ n → callN G.T k f [.scr ns] = .ok (.bl true)) (H : Hp) (a : Addr) (ns : List Int) (hn : ns.length ≤ n) (hS : SqL G.K H a (ns.map V.int)) :
    spF G k f [.ref a] H (fun v _ => v = .bl true) fun _ _ _ => False := by
  refine ⟨fun _ => False, [.scr ns], fun _ z => z.elim, .cons (.scr ?_) .nil, ?_⟩
  · have e : hide (fun _ => False) H = H := by funext b; rw [hide_of (fun z => z)]
    rw [e]; exact hS
  · rw [hl ns hn]
    intro v H' _ r
    cases r; rfl
/-- a row's facts, from the head's -/
theorem facts {P : Program} {w : World} {K : PySem.W.Frag} {mg : Str → Option Value} {h : Heap} {T : Nat → Option Fn} {rows : List Row} {fr : List Str} {k n : Nat} {XR : Hp → Value → Option Addr → List Nat → List D → Prop} {lw : Row} {x : Str} {f : Addr} (X : K.In h) (Gn : h.Ns mainGlobals mg)
    (c : He.SaysD (faOf rows fr) (rows.map (·.d)) K) (hp : AllP (RowP C T) rows) (hC : C.nm = rows.map fun r => (r.x, r.f)) (hcm : C.cm = []) (hfr : C.fr = fr) (hm : lw ∈ rows) (hx : lw.N.take lw.np = [x]) (hf : mg lw.x = some (.ref f))
    (hl : ∀ ns : List Int, ns.length ≤ n → callN T (k + 1) lw.f [.scr ns] = .ok (.bl true)) :
    ∃ (K : PySem.W.Frag) (fd : FuncData) (sp : Sp), K.In h ∧ (∀ (s : Shared) (u : Value), BindsTo s fd ⟨[u], []⟩ [(x, u)]) ∧
        (∀ (H : Hp) (a : Addr) (ns : List Int), ns.length ≤ n → Only H → SqL K H a (ns.map V.int) → sp [.ref a] H (fun v _ => v = .bl true) fun _ _ _ => False) ∧
        ∀ base : Heap, K.In base → base.Ns mainGlobals mg → FnOk P w K mg base (L2.CX P w) (k + 1) f fd [x] sp := by
  have p := hp.mem lw hm
  obtain ⟨fd, F⟩ := row_fun c hm p
  obtain ⟨fn, t1, t2, t3, t4⟩ := p.tr
  have e : mg lw.x = some (.ref (He.ga K lw.x)) := He.glo_ok X Gn (fact_mem c (List.mem_append_left _ (List.mem_map_of_mem hm)))
  rw [hf] at e; cases e
  refine ⟨K, fd, spF ⟨P, w, K, mg, h, T, XR⟩ (k + 1) lw.f, X, fun s u => ?_, fun H a ns hn _ hS => law_spF hl H a ns hn hS, fun base hb hg => ?_⟩
  · have b := FunD.bindsA F p.bn s [u] (by rw [hx]; rfl)
    rw [hx] at b; exact b
  · have := def_ok (G := ⟨P, w, K, mg, base, T, XR⟩) (C := C) (n := k) F p.sc t1 t2 t3 t4 (wd_of (P := P) (w := w) (base := base) (XR := XR) X Gn c hp hC hcm hfr k)
    rw [hx] at this; exact this
end
end TQ

/-! PB: the evaluator's equations; loops. No heap, no text. -/
namespace TQ
section
variable (F : Nat → List D → R D) (env : Env)
@[simp] theorem evE_lit (d) : evE F (.lit d) env = .ok d := rfl
@[simp] theorem evE_glo (d) : evE F (.glo d) env = .ok d := rfl
@[simp] theorem evE_var (i) : evE F (.var i) env = varD (getS env i) := rfl
@[simp] theorem evE_mvar (i) : evE F (.mvar i) env = mvarD (getS env i) := rfl
@[simp] theorem evE_tup (es) : evE F (.tup es) env = (evEs F es env).bind fun ds => .ok (.tup ds) := rfl
@[simp] theorem evE_lst (es) : evE F (.lst es) env = (evEs F es env).bind fun ds => .ok (.lst ds) := rfl
@[simp] theorem evE_dsp (ks vs) : evE F (.dsp ks vs) env = (evEs F ks env).bind fun as => (evEs F vs env).bind fun bs => dictOf (pairUp as bs) := rfl
@[simp] theorem evE_call (f es) : evE F (.call f es) env = (evEs F es env).bind fun ds => F f ds := rfl
@[simp] theorem evE_op1 (o a) : evE F (.op1 o a) env = (evE F a env).bind fun x => do1 o x := rfl
@[simp] theorem evE_op2 (o a b) : evE F (.op2 o a b) env = (evE F a env).bind fun x => (evE F b env).bind fun y => do2 o x y := rfl
@[simp] theorem evE_op3 (o a b c) : evE F (.op3 o a b c) env = (evE F a env).bind fun x => (evE F b env).bind fun y => (pre3 o y).bind fun _ => (evE F c env).bind fun z => do3 o x y z := rfl
@[simp] theorem evE_m1 (o a b) : evE F (.m1 o a b) env = (evE F a env).bind fun x => (preM x o).bind fun _ => (evE F b env).bind fun y => do2 o x y := rfl
@[simp] theorem evE_m2 (o a b c) : evE F (.m2 o a b c) env = (evE F a env).bind fun x => (preM2 x o).bind fun _ => (evE F b env).bind fun y => (evE F c env).bind fun z => do3 o x y z := rfl
@[simp] theorem evE_and (a b) : evE F (.and a b) env = (evE F a env).bind fun x => (truthD x).bind fun t => if t then evE F b env else .ok x := rfl
@[simp] theorem evE_or (a b) : evE F (.or a b) env = (evE F a env).bind fun x => (truthD x).bind fun t => if t then .ok x else evE F b env := rfl
@[simp] theorem evE_not (a) : evE F (.not a) env = (evE F a env).bind fun x => (truthD x).bind fun t => .ok (.bl !t) := rfl
@[simp] theorem evE_ite (c a b) : evE F (.ite c a b) env = (evE F c env).bind fun x => (truthD x).bind fun t => if t then evE F a env else evE F b env := rfl
@[simp] theorem evE_chain (o o' a b c) : evE F (.chain o o' a b c) env = (evE F a env).bind fun x => (evE F b env).bind fun y => (do2 o x y).bind fun r => (truthD r).bind fun t => if t then (evE F c env).bind fun z => do2 o' y z else .ok r := rfl
@[simp] theorem evE_comp (elt tg it cs) : evE F (.comp elt tg it cs) env = (evI F it env).bind fun ds =>
      (compD (fun d => (setT tg d env).bind fun env' => (evC F cs env').bind fun t => if t then (evE F elt env').bind fun x => .ok (some x) else .ok none) ds).bind fun xs => .ok (.lst xs) := rfl
@[simp] theorem evEs_nil : evEs F .nil env = .ok [] := rfl
@[simp] theorem evEs_cons (e es) : evEs F (.cons e es) env = (evE F e env).bind fun d => (evEs F es env).bind fun ds => .ok (d :: ds) := rfl
@[simp] theorem evC_nil : evC F .nil env = .ok true := rfl
@[simp] theorem evC_cons (e es) : evC F (.cons e es) env = (evE F e env).bind fun x => truthD x := rfl
@[simp] theorem evI_of (e) : evI F (.of e) env = (evE F e env).bind iterD := rfl
@[simp] theorem evI_rng (a) : evI F (.rng a) env = (evE F a env).bind rng1R := rfl
@[simp] theorem evI_rng2 (a b) : evI F (.rng2 a b) env = (evE F a env).bind fun x => (evE F b env).bind fun y => rng2R x y := rfl
@[simp] theorem evI_enum (a) : evI F (.enum a) env = (evE F a env).bind fun x => (iterD x).bind fun ds => .ok (enumD ds 0) := rfl
@[simp] theorem evI_zip (a b) : evI F (.zip a b) env = (evE F a env).bind fun x => (evE F b env).bind fun y => (iterD x).bind fun xs => (iterD y).bind fun ys => .ok (zipD xs ys) := rfl
@[simp] theorem evI_rev (a) : evI F (.rev a) env = (evE F a env).bind fun x => (iterD x).bind fun ds => .ok ds.reverse := rfl
@[simp] theorem evS_asg (t e) : evS F (.asg t e) env = (evE F e env).bind fun d => (setT t d env).bind fun env' => .ok (.nx env') := rfl
@[simp] theorem evS_asm (i e) : evS F (.asm i e) env = (evE F e env).bind fun d => (mslot d).bind fun s => .ok (.nx (setS env i s)) := rfl
@[simp] theorem evS_app (i e) : evS F (.app i e) env = (preL (getS env i)).bind fun _ => (evE F e env).bind fun d => (appS (getS env i) d).bind fun s => .ok (.nx (setS env i s)) := rfl
@[simp] theorem evS_ext (i e) : evS F (.ext i e) env = (preL (getS env i)).bind fun _ => (evE F e env).bind fun d => (extS (getS env i) d).bind fun s => .ok (.nx (setS env i s)) := rfl
@[simp] theorem evS_ins (i e e') : evS F (.ins i e e') env = (preL (getS env i)).bind fun _ => (evE F e env).bind fun k => (evE F e' env).bind fun d => (insS (getS env i) k d).bind fun s => .ok (.nx (setS env i s)) := rfl
@[simp] theorem evS_put (i k v) : evS F (.put i k v) env = (evE F v env).bind fun d => (evE F k env).bind fun x => (putS (getS env i) x d).bind fun s => .ok (.nx (setS env i s)) := rfl
@[simp] theorem evS_ex (e) : evS F (.ex e) env = (evE F e env).bind fun _ => .ok (.nx env) := rfl
@[simp] theorem evS_ret (e) : evS F (.ret e) env = (evE F e env).bind fun d => .ok (.rt d) := rfl
@[simp] theorem evS_retn : evS F .retn env = .ok (.rt .non) := rfl
@[simp] theorem evS_ife (c a b) : evS F (.ife c a b) env = (evE F c env).bind fun x => (truthD x).bind fun t => if t then evSs F a env else evSs F b env := rfl
@[simp] theorem evS_for (fz t it b) : evS F (.for_ fz t it b) env = (evI F it (frzE fz env)).bind fun ds => forD (fun env' d => (setT t d env').bind fun env2 => evSs F b env2) ds (frzE fz env) := rfl
@[simp] theorem evS_whl (c b) : evS F (.whl c b) env = whileD (fun env' => (evE F c env').bind fun x => truthD x) (fun env' => evSs F b env') WF env := rfl
@[simp] theorem evS_pass : evS F .pass env = .ok (.nx env) := rfl
@[simp] theorem evSs_nil : evSs F .nil env = .ok (.nx env) := rfl
theorem evSs_cons (s ss) : evSs F (.cons s ss) env = (evS F s env).bind fun o => match o with
    | .nx env' => evSs F ss env'
    | .rt d => .ok (.rt d) := rfl
/-- what follows a statement -/
def nxt (r : R Out) (f : Env → R Out) : R Out := r.bind fun o => match o with
    | .nx env' => f env'
    | .rt d => .ok (.rt d)
@[simp] theorem evSs_cons' (s ss) : evSs F (.cons s ss) env = nxt (evS F s env) (evSs F ss) := rfl
@[simp] theorem nxt_nx (f : Env → R Out) : nxt (.ok (.nx env)) f = f env := rfl
@[simp] theorem nxt_rt (d) (f : Env → R Out) : nxt (.ok (.rt d)) f = .ok (.rt d) := rfl
end
@[simp] theorem getS_0 (s : Slot) (r : Env) : getS (s :: r) 0 = s := rfl
@[simp] theorem getS_s (s : Slot) (r : Env) (i : Nat) : getS (s :: r) (i + 1) = getS r i := rfl
@[simp] theorem setS_0 (s x : Slot) (r : Env) : setS (s :: r) 0 x = x :: r := rfl
@[simp] theorem setS_s (s x : Slot) (r : Env) (i : Nat) : setS (s :: r) (i + 1) x = s :: setS r i x := rfl
@[simp] theorem getS_1 (s t : Slot) (r : Env) : getS (s :: t :: r) 1 = t := rfl
@[simp] theorem varD_val (d) : varD (.val d) = .ok d := rfl
@[simp] theorem mvarD_val (d) : mvarD (.val d) = .ok d := rfl
@[simp] theorem mvarD_ml (d) : mvarD (.ml d) = .ok (.lst d) := rfl
@[simp] theorem mvarD_md (d) : mvarD (.md d) = .ok (.dct d) := rfl
@[simp] theorem setT_nm (i d env) : setT (.nm i) d env = .ok (setS env i (.val d)) := rfl
@[simp] theorem setT_tp (ts ds env) : setT (.tp ts) (.tup ds) env = setTs ts ds env := rfl
@[simp] theorem setTs_nil (env) : setTs .nil [] env = .ok env := rfl
@[simp] theorem setTs_cons (t ts d ds env) : setTs (.cons t ts) (d :: ds) env = (setT t d env).bind fun env' => setTs ts ds env' := rfl
@[simp] theorem truthD_bl (b) : truthD (.bl b) = .ok b := rfl
@[simp] theorem frzE_nil (env) : frzE [] env = env := rfl
@[simp] theorem frzE_cons (i r env) : frzE (i :: r) env = frzE r (setS env i (frz1 (getS env i))) := rfl
@[simp] theorem frz1_ml (ds) : frz1 (.ml ds) = .val (.lst ds) := rfl
@[simp] theorem frz1_md (ds) : frz1 (.md ds) = .val (.dct ds) := rfl
@[simp] theorem frz1_val (ds) : frz1 (.val ds) = .val ds := rfl
theorem runF_eq (F) (fn : Fn) (args : List D) (h : args.length = fn.np) : runF F fn args = (evSs F fn.body (startE fn args)).bind fun o => match o with
    | .rt d => .ok d
    | .nx _ => .ok .non := if_pos h
theorem call_ret {T : Nat → Option Fn} {n f : Nat} {fn : Fn} {args : List D} {d : D} (hT : T f = some fn) (hn : args.length = fn.np) (h : evSs (callN T n) fn.body (startE fn args) = .ok (.rt d)) : callN T (n + 1) f args = .ok d := by
  rw [callN_succ, hT]
  show runF _ fn args = _
  rw [runF_eq _ _ _ hn, h]; rfl

/-! ### loops -/
theorem compD_map {f : D → R (Option D)} {g : D → D} : ∀ {ds : List D}, (∀ d ∈ ds, f d = .ok (some (g d))) → compD f ds = .ok (ds.map g)
  | [], _ => rfl
  | d :: ds, h => by
    show (f d).bindB _ = _
    rw [h d List.mem_cons_self]
    show (compD f ds).bindB _ = _
    rw [compD_map fun d hd => h d (List.mem_cons_of_mem _ hd)]
    rfl
/-- some values -/
theorem compD_ex {f : D → R (Option D)} {P : D → Prop} : ∀ {ds : List D}, (∀ d ∈ ds, ∃ x, f d = .ok (some x) ∧ P x) → ∃ xs, compD f ds = .ok xs ∧ xs.length = ds.length ∧ ∀ x ∈ xs, P x
  | [], _ => ⟨[], rfl, rfl, fun _ h => nomatch h⟩
  | d :: ds, h => by
    obtain ⟨x, hx, px⟩ := h d List.mem_cons_self
    obtain ⟨xs, hxs, hl, pxs⟩ := compD_ex (ds := ds) fun d hd => h d (List.mem_cons_of_mem _ hd)
    refine ⟨x :: xs, ?_, by rw [List.length_cons, List.length_cons, hl], fun y hy => ?_⟩
    · show (f d).bindB _ = _
      rw [hx]
      show (compD f ds).bindB _ = _
      rw [hxs]; rfl
    · rcases List.mem_cons.mp hy with rfl | hy
      · exact px
      · exact pxs y hy
theorem forD_inv {f : Env → D → R Out} (P : Env → Prop) : ∀ {ds : List D} {env : Env}, (∀ d ∈ ds, ∀ env, P env → ∃ env', f env d = .ok (.nx env') ∧ P env') → P env → ∃ env', forD f ds env = .ok (.nx env') ∧ P env'
  | [], env, _, p => ⟨env, rfl, p⟩
  | d :: ds, env, h, p => by
    obtain ⟨env1, h1, p1⟩ := h d List.mem_cons_self env p
    obtain ⟨env2, h2, p2⟩ := forD_inv P (ds := ds) (fun d hd => h d (List.mem_cons_of_mem _ hd)) p1
    refine ⟨env2, ?_, p2⟩
    show (f env d).bind _ = _
    rw [h1]; exact h2
end TQ

namespace TQ
def F0 : Fn := ⟨1, 1, (.cons (.ife (.op1 (.isi .bool) (.var 0)) (.cons (.ret (.lit (.str [116, 114, 117, 116, 104]))) .nil) .nil) (.cons (.ife (.op1 (.isi .int) (.var 0)) (.cons (.ret (.lit (.str [119, 104, 111, 108, 101]))) .nil) .nil) (.cons (.ife (.op1 (.isi .str) (.var 0)) (.cons (.ret (.lit (.str [116, 101, 120, 116]))) .nil) .nil) (.cons (.ret (.lit .non)) .nil))))⟩
def F1 : Fn := ⟨2, 2, (.cons (.ife (.op2 .is_ (.var 0) (.lit .non)) (.cons (.ret (.op2 .ix (.var 1) (.lit (.int 1)))) .nil) .nil) (.cons (.ret (.op2 .eq (.call 0 (.cons (.var 0) .nil)) (.op2 .ix (.var 1) (.lit (.int 0))))) .nil))⟩
def F2 : Fn := ⟨2, 2, (.cons (.ife (.op2 .lt (.var 1) (.op1 .len (.var 0))) (.cons (.ret (.op2 .ix (.var 0) (.var 1))) .nil) .nil) (.cons (.ret (.lit (.int 0))) .nil))⟩
def F3 : Fn := ⟨3, 4, (.cons (.asg (.nm 3) (.op2 .mod (.op2 .mul (.var 0) (.lit (.int 48271))) (.var 1))) (.cons (.ret (.op2 .mod (.op2 .mod (.op2 .mul (.var 3) (.op2 .add (.var 3) (.lit (.int 7)))) (.var 1)) (.var 2))) .nil))⟩
def F4 : Fn := ⟨1, 3, (.cons (.asg (.nm 1) (.lit (.str [32, 33, 34, 35, 36, 38, 39, 40, 41, 42, 43, 44, 45, 46, 47, 48, 49, 50, 51, 52, 53, 54, 55, 56, 57, 58, 59, 60, 61, 62, 63, 64, 65, 66, 67, 68, 69, 70, 71, 72, 73, 74, 75, 76, 77, 78, 79, 80, 81, 82, 83, 84, 85, 86, 87, 88, 89, 90, 91, 92, 93, 94, 95, 96, 97, 98, 99, 100, 101, 102, 103, 104, 105, 106, 107, 108, 109, 110, 111, 112, 113, 114, 115, 116, 117, 118, 119, 120, 121, 122, 123, 124, 125, 126]))) (.cons (.ife (.op2 .eq (.op2 .mod (.var 0) (.lit (.int 3))) (.lit (.int 0))) (.cons (.ret (.op2 .ix (.tup (.cons (.lit (.str [])) (.cons (.lit (.str [97])) (.cons (.lit (.str [98])) (.cons (.lit (.str [97, 98])) (.cons (.lit (.str [66])) .nil)))))) (.call 3 (.cons (.var 0) (.cons (.lit (.int 9973)) (.cons (.lit (.int 5)) .nil)))))) .nil) .nil) (.cons (.ret (.m1 .join (.lit (.str [])) (.comp (.op2 .ix (.var 1) (.call 3 (.cons (.op2 .add (.var 0) (.op2 .mul (.lit (.int 7)) (.var 2))) (.cons (.lit (.int 9967)) (.cons (.op1 .len (.var 1)) .nil))))) (.nm 2) (.rng (.call 3 (.cons (.var 0) (.cons (.lit (.int 9949)) (.cons (.lit (.int 5)) .nil))))) .nil))) .nil)))⟩
def F5 : Fn := ⟨2, 4, (.cons (.asg (.tp (.cons (.nm 2) (.cons (.nm 3) .nil))) (.var 1)) (.cons (.ife (.and (.var 3) (.op2 .eq (.call 3 (.cons (.var 0) (.cons (.lit (.int 9941)) (.cons (.lit (.int 3)) .nil)))) (.lit (.int 0)))) (.cons (.ret (.lit .non)) .nil) .nil) (.cons (.ife (.op2 .eq (.var 2) (.lit (.str [119, 104, 111, 108, 101]))) (.cons (.ret (.op2 .sub (.call 3 (.cons (.var 0) (.cons (.lit (.int 9931)) (.cons (.lit (.int 7)) .nil)))) (.lit (.int 3)))) .nil) .nil) (.cons (.ife (.op2 .eq (.var 2) (.lit (.str [116, 114, 117, 116, 104]))) (.cons (.ret (.op2 .eq (.call 3 (.cons (.var 0) (.cons (.lit (.int 9929)) (.cons (.lit (.int 2)) .nil)))) (.lit (.int 0)))) .nil) .nil) (.cons (.ret (.call 4 (.cons (.var 0) .nil))) .nil)))))⟩
def F6 : Fn := ⟨1, 1, (.cons (.ret (.tup (.cons (.op2 .ix (.tup (.cons (.lit (.str [119, 104, 111, 108, 101])) (.cons (.lit (.str [116, 101, 120, 116])) (.cons (.lit (.str [116, 114, 117, 116, 104])) (.cons (.lit (.str [119, 104, 111, 108, 101])) .nil))))) (.call 3 (.cons (.var 0) (.cons (.lit (.int 9923)) (.cons (.lit (.int 4)) .nil))))) (.cons (.op2 .eq (.call 3 (.cons (.var 0) (.cons (.lit (.int 9907)) (.cons (.lit (.int 2)) .nil)))) (.lit (.int 0))) .nil)))) .nil)⟩
def F7 : Fn := ⟨1, 7, (.cons (.for_ [] (.nm 1) (.rng (.lit (.int 12))) (.cons (.asg (.nm 2) (.op2 .add (.call 2 (.cons (.var 0) (.cons (.op2 .mod (.var 1) (.lit (.int 9))) .nil))) (.op2 .mul (.lit (.int 31)) (.var 1)))) (.cons (.asg (.nm 3) (.call 6 (.cons (.var 2) .nil))) (.cons (.ife (.or (.op2 .isnot (.call 1 (.cons (.call 5 (.cons (.op2 .add (.var 2) (.lit (.int 1))) (.cons (.var 3) .nil))) (.cons (.var 3) .nil))) (.lit (.bl true))) (.op2 .ne (.call 1 (.cons (.lit .non) (.cons (.var 3) .nil))) (.op2 .ix (.var 3) (.lit (.int 1))))) (.cons (.ret (.lit (.bl false))) .nil) .nil) (.cons (.for_ [] (.nm 4) (.of (.tup (.cons (.lit (.str [119, 104, 111, 108, 101])) (.cons (.lit (.str [116, 101, 120, 116])) (.cons (.lit (.str [116, 114, 117, 116, 104])) .nil))))) (.cons (.asg (.nm 5) (.call 5 (.cons (.op2 .add (.var 2) (.lit (.int 2))) (.cons (.tup (.cons (.var 4) (.cons (.lit (.bl false)) .nil))) .nil)))) (.cons (.asg (.nm 6) (.op2 .eq (.var 4) (.op2 .ix (.var 3) (.lit (.int 0))))) (.cons (.ife (.or (.and (.op2 .isnot (.call 1 (.cons (.var 5) (.cons (.var 3) .nil))) (.lit (.bl true))) (.var 6)) (.and (.op2 .isnot (.call 1 (.cons (.var 5) (.cons (.var 3) .nil))) (.lit (.bl false))) (.not (.var 6)))) (.cons (.ret (.lit (.bl false))) .nil) .nil) .nil)))) .nil))))) (.cons (.ife (.or (.op2 .isnot (.call 1 (.cons (.lit (.int 1)) (.cons (.tup (.cons (.lit (.str [116, 114, 117, 116, 104])) (.cons (.lit (.bl true)) .nil))) .nil))) (.lit (.bl false))) (.op2 .isnot (.call 1 (.cons (.lit (.bl true)) (.cons (.tup (.cons (.lit (.str [119, 104, 111, 108, 101])) (.cons (.lit (.bl true)) .nil))) .nil))) (.lit (.bl false)))) (.cons (.ret (.lit (.bl false))) .nil) .nil) (.cons (.ret (.and (.op2 .is_ (.call 1 (.cons (.op2 .pow (.lit (.int 10)) (.lit (.int 50))) (.cons (.tup (.cons (.lit (.str [119, 104, 111, 108, 101])) (.cons (.lit (.bl false)) .nil))) .nil))) (.lit (.bl true))) (.op2 .is_ (.call 1 (.cons (.lit (.str [49])) (.cons (.tup (.cons (.lit (.str [119, 104, 111, 108, 101])) (.cons (.lit (.bl false)) .nil))) .nil))) (.lit (.bl false))))) .nil)))⟩
def T : Nat → Option Fn := fun n => match n with
  | 0 => some F0
  | 1 => some F1
  | 2 => some F2
  | 3 => some F3
  | 4 => some F4
  | 5 => some F5
  | 6 => some F6
  | 7 => some F7
  | _ => none
theorem T0 : T 0 = some F0 := rfl
theorem T1 : T 1 = some F1 := rfl
theorem T2 : T 2 = some F2 := rfl
theorem T3 : T 3 = some F3 := rfl
theorem T4 : T 4 = some F4 := rfl
theorem T5 : T 5 = some F5 := rfl
theorem T6 : T 6 = some F6 := rfl
theorem T7 : T 7 = some F7 := rfl
end TQ

namespace TQ
/-! mix -/
def mixI (a p m : Int) : Int := (a * 48271 % p) * (a * 48271 % p + 7) % p % m
theorem mul_ok {a b : Int} (h : small64 a = true ∨ small64 b = true) : mulD (.int a) (.int b) = .ok (.int (a * b)) := by
  show (if small64 a || small64 b then _ else _) = _
  rw [if_pos (by rcases h with h | h <;> simp [h])]
theorem mod_ok {a b : Int} (h : 0 < b) : modD (.int a) (.int b) = .ok (.int (a % b)) := if_pos h
theorem small_mod {a p : Int} (h : 0 < p) (h' : p < 2 ^ 64) : small64 (a % p) = true := by
  unfold small64
  have := Int.emod_nonneg a (by omega : p ≠ 0)
  have := Int.emod_lt_of_pos a h
  simp only [Bool.and_eq_true, decide_eq_true_eq]
  omega
theorem mix_ok {n : Nat} {a p m : Int} (hp : 0 < p) (hp' : p < 2 ^ 64) (hm : 0 < m) : callN T (n + 1) 3 [.int a, .int p, .int m] = .ok (.int (mixI a p m)) := by
  refine call_ret T3 rfl ?_
  have e1 : mulD (.int a) (.int 48271) = .ok (.int (a * 48271)) := mul_ok (.inr (by decide))
  have e2 : modD (.int (a * 48271)) (.int p) = .ok (.int (a * 48271 % p)) := mod_ok hp
  have e3 : mulD (.int (a * 48271 % p)) (.int (a * 48271 % p + 7)) = .ok (.int (a * 48271 % p * (a * 48271 % p + 7))) := mul_ok (.inl (small_mod hp hp'))
  have e4 := mod_ok (a := a * 48271 % p * (a * 48271 % p + 7)) hp
  have e5 := mod_ok (a := a * 48271 % p * (a * 48271 % p + 7) % p) hm
  simp [F3, startE, do2, e1, e2, addD, e3, e4, e5, mixI]
theorem mixI_lt {a p m : Int} (hm : 0 < m) : 0 ≤ mixI a p m ∧ mixI a p m < m := ⟨Int.emod_nonneg _ (by omega), Int.emod_lt_of_pos _ hm⟩

/-! sort_of, is_of -/
def Whole : List Nat := [119, 104, 111, 108, 101]
def Text : List Nat := [116, 101, 120, 116]
def Truth : List Nat := [116, 114, 117, 116, 104]
/-- a value of a table: its kind's name -/
def sortV : D → D
  | .bl _ => .str Truth
  | .int _ => .str Whole
  | .str _ => .str Text
  | _ => .non
def isV : D → Bool
  | .bl _ => true
  | .int _ => true
  | .str _ => true
  | .non => true
  | .tup _ => true
  | .lst _ => true
  | _ => false
theorem sort_ok {n : Nat} {d : D} (h : isV d = true) : callN T (n + 1) 0 [d] = .ok (sortV d) := by
  refine call_ret T0 rfl ?_
  cases d <;> first | exact absurd h Bool.false_ne_true | simp [F0, startE, do1, isiD, sortV, Whole, Text, Truth]
def isofV (d s : D) (m : Bool) : Bool := match d with
  | .non => m
  | d => eqv (sortV d) s
theorem isof_ok {n : Nat} {d : D} {s : List Nat} {m : Bool} (h : isV d = true) : callN T (n + 2) 1 [d, .tup [.str s, .bl m]] = .ok (.bl (isofV d (.str s) m)) := by
  refine call_ret T1 rfl ?_
  have e := sort_ok (n := n) h
  cases d <;> first | exact absurd h Bool.false_ne_true | simp [F1, startE, do2, isD, isNon, ixD, itemD, ixI, nthD, e, sortV, eqD, eqOk, plain, shal, blR, isofV]
/-! cell -/
theorem cell_ok {n : Nat} {ns : List Int} {k : Int} (h : 0 ≤ k) : ∃ c : Int, callN T (n + 1) 2 [.scr ns, .int k] = .ok (.int c) := by
  by_cases hk : k < ns.length
  · have h2 : ∃ c, nthD ns k.toNat = some c := by
      have key : ∀ (l : List Int) (j : Nat), j < l.length → ∃ c, nthD l j = some c := by
        intro l
        induction l with
        | nil => intro j h; cases h
        | cons x l ih => intro j h; cases j with
          | zero => exact ⟨x, rfl⟩
          | succ j => exact ih j (by simpa using h)
      exact key ns k.toNat (by omega)
    obtain ⟨c, hc⟩ := h2
    refine ⟨c, call_ret T2 rfl ?_⟩
    simp [F2, startE, do2, do1, lenD, ltD, hk, ixD, itemD, ixI, h, hc]
  · refine ⟨0, call_ret T2 rfl ?_⟩
    simp [F2, startE, do2, do1, lenD, ltD, hk]
/-! text -/
theorem nth_some {α : Type} : ∀ (l : List α) (j : Nat), j < l.length → ∃ c, nthD l j = some c
  | [], j, h => by cases h
  | x :: l, 0, h => ⟨x, rfl⟩
  | x :: l, j + 1, h => nth_some l j (by simpa using h)
theorem ix_str {x : List Nat} {k : Int} (h : 0 ≤ k) (h' : k < x.length) : ∃ c, ixD (.str x) (.int k) = .ok (.str [c]) := by
  obtain ⟨c, hc⟩ := nth_some x k.toNat (by omega)
  exact ⟨c, by simp [ixD, itemD, ixI, h, h', hc]⟩
theorem ix_tup {x : List D} {k : Int} (h : 0 ≤ k) (h' : k < x.length) : ∃ d, d ∈ x ∧ ixD (.tup x) (.int k) = .ok d := by
  obtain ⟨c, hc⟩ := nth_some x k.toNat (by omega)
  have mem : ∀ (l : List D) (j : Nat) (c : D), nthD l j = some c → c ∈ l := by
    intro l
    induction l with
    | nil => intro j c h; cases h
    | cons y l ih => intro j c h; cases j with
      | zero => cases h; exact List.mem_cons_self
      | succ j => exact List.mem_cons_of_mem _ (ih j c h)
  exact ⟨c, mem _ _ _ hc, by simp [ixD, itemD, ixI, h, h', hc]⟩
theorem strs_of : ∀ {xs : List D}, (∀ x ∈ xs, ∃ c : Nat, x = .str [c]) → ∃ ss : List (List Nat), strsD xs = some ss ∧ ss.length = xs.length ∧ (ss.map List.length).sum = xs.length
  | [], _ => ⟨[], rfl, rfl, rfl⟩
  | x :: xs, h => by
    obtain ⟨c, rfl⟩ := h x List.mem_cons_self
    obtain ⟨ss, h1, h2, h3⟩ := strs_of (xs := xs) fun x hx => h x (List.mem_cons_of_mem _ hx)
    exact ⟨[c] :: ss, by simp [strsD, h1], by simp [h2], by simp [h3]; omega⟩
theorem rngD_mem {d : D} : ∀ {k : Nat} {lo : Int}, d ∈ rngD lo k → ∃ i : Int, d = .int i ∧ lo ≤ i ∧ i < lo + k
  | 0, lo, h => by cases h
  | k + 1, lo, h => by
    rcases List.mem_cons.mp (show d ∈ D.int lo :: rngD (lo + 1) k from h) with rfl | h
    · exact ⟨lo, rfl, by omega, by omega⟩
    · obtain ⟨i, e, h1, h2⟩ := rngD_mem h
      exact ⟨i, e, by omega, by omega⟩
theorem rngD_len : ∀ (k : Nat) (lo : Int), (rngD lo k).length = k
  | 0, _ => rfl
  | k + 1, lo => by show (rngD (lo + 1) k).length + 1 = _; rw [rngD_len k]
theorem rng1_ok {j : Int} (h : 0 ≤ j) (h' : j ≤ 1000) : rng1R (.int j) = .ok (rngD 0 j.toNat) := by
  have hs : LN = 16777216 := rfl
  show (if -(LN : Int) ≤ j ∧ j ≤ LN then R.ok (rngD 0 j.toNat) else .bad) = _
  rw [if_pos (by omega)]
theorem text_ok {n : Nat} {c : Int} : ∃ x, callN T (n + 2) 4 [.int c] = .ok (.str x) := by
  by_cases h0 : c % 3 = 0
  · have hm := mix_ok (n := n) (a := c) (p := 9973) (m := 5) (by decide) (by decide) (by decide)
    have hl := mixI_lt (a := c) (p := 9973) (m := 5) (by decide)
    obtain ⟨d, hd, hx⟩ := ix_tup (x := [.str [], .str [97], .str [98], .str [97, 98], .str [66]]) hl.1 hl.2
    have e3 := mod_ok (a := c) (b := 3) (by decide)
    have hd' : ∃ x, d = .str x := by
      simp only [List.mem_cons, List.not_mem_nil, or_false] at hd
      rcases hd with rfl | rfl | rfl | rfl | rfl <;> exact ⟨_, rfl⟩
    obtain ⟨x, rfl⟩ := hd'
    refine ⟨x, call_ret T4 rfl ?_⟩
    simp [F4, startE, do2, e3, h0, hm, hx, eqD, eqOk, plain, shal, blR, eqv]
  · have e3 := mod_ok (a := c) (b := 3) (by decide)
    have hm := mix_ok (n := n) (a := c) (p := 9949) (m := 5) (by decide) (by decide) (by decide)
    have hl := mixI_lt (a := c) (p := 9949) (m := 5) (by decide)
    have hr := rng1_ok hl.1 (by omega)
    generalize mixI c 9949 5 = m at hm hl hr
    have hne : (c % 3 == 0) = false := by simpa using h0
    have st : ∀ d, evSs (callN T (n + 1)) F4.body (startE F4 [.int c]) = .ok (.rt d) → callN T (n + 2) 4 [.int c] = .ok d := fun d h => call_ret T4 rfl h
    suffices h : ∃ x, evSs (callN T (n + 1)) F4.body (startE F4 [.int c]) = .ok (.rt (.str x)) by
      obtain ⟨x, h⟩ := h; exact ⟨x, st _ h⟩
    simp [F4, startE, do2, e3, eqD, eqOk, plain, shal, blR, eqv, hne, hm, hr, preM, do1, lenD]
    have hk : ∀ f : D → R (Option D), (∀ d ∈ rngD 0 m.toNat, ∃ x, f d = .ok (some x) ∧ ∃ c : Nat, x = .str [c]) → ∃ x, nxt ((((compD f (rngD 0 m.toNat)).bind fun xs => R.ok (D.lst xs)).bind fun y => joinD (.str []) y).bind fun d => R.ok (Out.rt d)) (evSs (callN T (n + 1)) Ss.nil) = R.ok (Out.rt (D.str x)) := fun f h => by
      obtain ⟨xs, h1, h2, h3⟩ := compD_ex h
      obtain ⟨ss, h4, h5, h6⟩ := strs_of h3
      have hlen : xs.length ≤ 4 := by rw [h2, rngD_len]; omega
      refine ⟨joinL [] ss, ?_⟩
      rw [h1]
      have hs : LN = 16777216 := rfl
      have hsum : (ss.map List.length).sum ≤ LN := by omega
      simp [joinD, h4, hsum]
    refine hk _ fun d hd => ?_
    obtain ⟨i, rfl, hi1, hi2⟩ := rngD_mem hd
    have e1 : mulD (.int 7) (.int i) = .ok (.int (7 * i)) := mul_ok (.inl (by decide))
    have hm2 := mix_ok (n := n) (a := c + 7 * i) (p := 9967) (m := 94) (by decide) (by decide) (by decide)
    have hl2 := mixI_lt (a := c + 7 * i) (p := 9967) (m := 94) (by decide)
    obtain ⟨z, hz⟩ := ix_str (x := [32, 33, 34, 35, 36, 38, 39, 40, 41, 42, 43, 44, 45, 46, 47, 48, 49, 50, 51, 52, 53, 54, 55, 56, 57, 58, 59, 60, 61, 62, 63, 64, 65, 66, 67, 68, 69, 70, 71, 72, 73, 74, 75, 76, 77, 78, 79, 80, 81, 82, 83, 84, 85, 86, 87, 88, 89, 90, 91, 92, 93, 94, 95, 96, 97, 98, 99, 100, 101, 102, 103, 104, 105, 106, 107, 108, 109, 110, 111, 112, 113, 114, 115, 116, 117, 118, 119, 120, 121, 122, 123, 124, 125, 126]) hl2.1 hl2.2
    exact ⟨.str [z], by simp [e1, addD, hm2, hz], z, rfl⟩
/-! values of a kind -/
def isSort (s : List Nat) : Prop := s = Whole ∨ s = Text ∨ s = Truth
theorem value_ok {n : Nat} {c : Int} {s : List Nat} {m : Bool} (hs : isSort s) : ∃ d, callN T (n + 3) 5 [.int c, .tup [.str s, .bl m]] = .ok d ∧ isV d = true ∧ ((d = .non ∧ m = true) ∨ sortV d = .str s) := by
  obtain ⟨x, hx⟩ := text_ok (n := n) (c := c)
  have h1 := mix_ok (n := n + 1) (a := c) (p := 9941) (m := 3) (by decide) (by decide) (by decide)
  have h2 := mix_ok (n := n + 1) (a := c) (p := 9931) (m := 7) (by decide) (by decide) (by decide)
  have h3 := mix_ok (n := n + 1) (a := c) (p := 9929) (m := 2) (by decide) (by decide) (by decide)
  have e : ∀ d, evSs (callN T (n + 2)) F5.body (startE F5 [.int c, .tup [.str s, .bl m]]) = .ok (.rt d) → callN T (n + 3) 5 [.int c, .tup [.str s, .bl m]] = .ok d := fun d h => call_ret T5 rfl h
  by_cases hc : m = true ∧ mixI c 9941 3 = 0
  · refine ⟨.non, e _ ?_, rfl, .inl ⟨rfl, hc.1⟩⟩
    simp [F5, startE, do2, h1, hc.1, hc.2, eqD, eqOk, plain, shal, blR, eqv]
  · have hc' : m = true → ¬ mixI c 9941 3 = 0 := fun h q => hc ⟨h, q⟩
    have step : ∀ d, sortV d = .str s → isV d = true → callN T (n + 3) 5 [.int c, .tup [.str s, .bl m]] = .ok d → ∃ d, callN T (n + 3) 5 [.int c, .tup [.str s, .bl m]] = .ok d ∧ isV d = true ∧ ((d = .non ∧ m = true) ∨ sortV d = .str s) := fun d h h' h'' => ⟨d, h'', h', .inr h⟩
    rcases hs with rfl | rfl | rfl
    · refine step (.int (mixI c 9931 7 - 3)) rfl rfl (e _ ?_)
      cases m <;> simp [F5, startE, do2, h1, h2, hc', eqD, eqOk, plain, shal, blR, eqv, Whole, subD]
    · refine step (.str x) rfl rfl (e _ ?_)
      cases m <;> simp [F5, startE, do2, h1, h2, h3, hx, hc', eqD, eqOk, plain, shal, blR, eqv, Whole, Text, subD]
    · refine step (.bl (mixI c 9929 2 == 0)) rfl rfl (e _ ?_)
      cases m <;> simp [F5, startE, do2, h1, h2, h3, hx, hc', eqD, eqOk, plain, shal, blR, eqv, Whole, Text, Truth, subD]
theorem kind_ok {n : Nat} {c : Int} : ∃ s m, callN T (n + 2) 6 [.int c] = .ok (.tup [.str s, .bl m]) ∧ isSort s := by
  have h1 := mix_ok (n := n) (a := c) (p := 9923) (m := 4) (by decide) (by decide) (by decide)
  have l1 := mixI_lt (a := c) (p := 9923) (m := 4) (by decide)
  have h2 := mix_ok (n := n) (a := c) (p := 9907) (m := 2) (by decide) (by decide) (by decide)
  obtain ⟨d, hd, hx⟩ := ix_tup (x := [.str [119, 104, 111, 108, 101], .str [116, 101, 120, 116], .str [116, 114, 117, 116, 104], .str [119, 104, 111, 108, 101]]) l1.1 l1.2
  have hd' : ∃ s, d = .str s ∧ isSort s := by
    simp only [List.mem_cons, List.not_mem_nil, or_false] at hd
    rcases hd with rfl | rfl | rfl | rfl
    · exact ⟨_, rfl, .inl rfl⟩
    · exact ⟨_, rfl, .inr (.inl rfl)⟩
    · exact ⟨_, rfl, .inr (.inr rfl)⟩
    · exact ⟨_, rfl, .inl rfl⟩
  obtain ⟨s, rfl, hs⟩ := hd'
  refine ⟨s, mixI c 9907 2 == 0, call_ret T6 rfl ?_, hs⟩
  simp [F6, startE, do2, h1, h2, hx, eqD, eqOk, plain, shal, blR, eqv]
/-! the law -/
theorem isof_val {d : D} {s : List Nat} {m : Bool} (h : (d = .non ∧ m = true) ∨ sortV d = .str s) : isofV d (.str s) m = true := by
  rcases h with ⟨rfl, rfl⟩ | h
  · rfl
  · cases d <;> simp_all [isofV, sortV, eqv]
theorem isofV_sort {d : D} {s t : List Nat} {m : Bool} (h : sortV d = .str t) : isofV d (.str s) m = (t == s) := by
  cases d <;> first | (cases h; done) | (cases h; rfl)
theorem law_ok_k01 (ns : List Int) (h : ns.length ≤ 63) : callN T 61 7 [.scr ns] = .ok (.bl true) := by
  refine call_ret T7 rfl ?_
  let P : Env → Prop := fun env => ∃ a b c d e f, env = [.val (.scr ns), a, b, c, d, e, f]
  have hk : ∀ (f : Env → D → R Out) (g : Env → R Out) (r : R Out) (env : Env), P env → (∀ d ∈ rngD 0 12, ∀ env, P env → ∃ env', f env d = .ok (.nx env') ∧ P env') → (∀ env, P env → g env = r) → nxt (forD f (rngD 0 12) env) g = r := fun f g r env p h hg => by
    obtain ⟨env', e, p'⟩ := forD_inv P h p
    rw [e]; exact hg _ p'
  have hr : rng1R (.int 12) = .ok (rngD 0 12) := rng1_ok (by decide) (by decide)
  simp only [F7, evSs_cons', evS_for, frzE_nil, evI_rng, evE_lit, R.bind_ok, hr]
  refine hk _ _ _ _ ⟨_, _, _, _, _, _, rfl⟩ ?_ ?_
  · intro d hd env p
    obtain ⟨i, rfl, hi1, hi2⟩ := rngD_mem hd
    obtain ⟨s1, s2, s3, s4, s5, s6, rfl⟩ := p
    have m1 : modD (.int i) (.int 9) = .ok (.int (i % 9)) := mod_ok (by decide)
    have m2 : mulD (.int 31) (.int i) = .ok (.int (31 * i)) := mul_ok (.inl (by decide))
    obtain ⟨c, hc⟩ := cell_ok (n := 59) (ns := ns) (k := i % 9) (by omega)
    obtain ⟨s, m, hkd, hs⟩ := kind_ok (n := 58) (c := c + 31 * i)
    obtain ⟨v, hv, v1, v2⟩ := value_ok (n := 57) (c := c + 31 * i + 1) (m := m) hs
    have i1 : callN T 60 1 [v, .tup [.str s, .bl m]] = .ok (.bl true) := by
      rw [isof_ok (n := 58) v1, isof_val v2]
    have i2 : callN T 60 1 [.non, .tup [.str s, .bl m]] = .ok (.bl m) := isof_ok (n := 58) rfl
    simp [do2, m1, m2, hc, addD, hkd, hv, i1, i2, isD, isBl, notR, nblR, eqD, eqOk, plain, shal, eqv, ixD, itemD, ixI, nthD, iterD]
    let P2 : Env → Prop := fun env => ∃ d e f, env = [.val (.scr ns), .val (.int i), .val (.int (c + 31 * i)), .val (.tup [.str s, .bl m]), d, e, f]
    have hk2 : ∀ (f : Env → D → R Out) (ds : List D) (env : Env), P2 env → (∀ d ∈ ds, ∀ env, P2 env → ∃ env', f env d = .ok (.nx env') ∧ P2 env') → ∃ env', nxt (forD f ds env) (evSs (callN T 60) Ss.nil) = .ok (.nx env') ∧ P env' := fun f ds env p h => by
      obtain ⟨env', e, d, e', f', rfl⟩ := forD_inv P2 h p
      rw [e]; exact ⟨_, rfl, _, _, _, _, _, _, rfl⟩
    refine hk2 _ _ _ ⟨_, _, _, rfl⟩ ?_
    intro d hd env p
    obtain ⟨s4, s5, s6, rfl⟩ := p
    have hd' : ∃ t, d = .str t ∧ isSort t := by
      simp only [List.mem_cons, List.not_mem_nil, or_false] at hd
      rcases hd with rfl | rfl | rfl
      · exact ⟨_, rfl, .inl rfl⟩
      · exact ⟨_, rfl, .inr (.inl rfl)⟩
      · exact ⟨_, rfl, .inr (.inr rfl)⟩
    obtain ⟨t, rfl, ht⟩ := hd'
    obtain ⟨w, hw, w1, w2⟩ := value_ok (n := 57) (c := c + 31 * i + 2) (m := false) ht
    have w2 : sortV w = .str t := w2.resolve_left fun z => nomatch z.2
    have i3 : callN T 60 1 [w, .tup [.str s, .bl m]] = .ok (.bl (t == s)) := by
      rw [isof_ok (n := 58) w1, isofV_sort w2]
    have fin : ∀ r : R Out, (∃ env', r = .ok (.nx env') ∧ P2 env') → ∃ env', r = .ok (.nx env') ∧ P2 env' := fun _ h => h
    refine ⟨[.val (.scr ns), .val (.int i), .val (.int (c + 31 * i)), .val (.tup [.str s, .bl m]), .val (.str t), .val w, .val (.bl (t == s))], ?_, _, _, _, rfl⟩
    cases hts : (t == s) <;> simp [do2, addD, hw, i3, hts, isD, isBl, notR, nblR, blR, eqD, eqOk, plain, shal, eqv, ixD, itemD, ixI, nthD, iterD]
  · intro env p
    obtain ⟨s1, s2, s3, s4, s5, s6, rfl⟩ := p
    have i1 : callN T 60 1 [.int 1, .tup [.str Truth, .bl true]] = .ok (.bl false) := isof_ok (n := 58) rfl
    have i2 : callN T 60 1 [.bl true, .tup [.str Whole, .bl true]] = .ok (.bl false) := isof_ok (n := 58) rfl
    have i3 : callN T 60 1 [.int 100000000000000000000000000000000000000000000000000, .tup [.str Whole, .bl false]] = .ok (.bl true) := isof_ok (n := 58) rfl
    have i4 : callN T 60 1 [.str [49], .tup [.str Whole, .bl false]] = .ok (.bl false) := isof_ok (n := 58) rfl
    have hp : powD (.int 10) (.int 50) = .ok (.int 100000000000000000000000000000000000000000000000000) := rfl
    unfold Truth at i1
    unfold Whole at i2 i3 i4
    simp [do2, i1, i2, i3, i4, hp, isD, isBl, notR]
end TQ

namespace TQ
namespace K01
open PySem PySem.Spec PyProof.Rows L2
abbrev top (i : Nat) : Stmt := PySem.Challenge.pw_tablequest_k01_values_and_kinds.main.body.getD i (.Pass ⟨0, 0, 0, 0⟩)
def C : TC := ⟨[("sort_of", 0), ("is_of", 1), ("_law_cell", 2), ("_law_mix", 3), ("_law_text", 4), ("_law_value", 5), ("_law_kind", 6), ("law", 7)], [], ["len", "int", "isinstance", "str", "bool", "range"]⟩
def r0 : Row := ⟨"sort_of", 0, ["value"], 1, [], ⟨("sort_of", none), "sort_of", "sort_of", defArgs (top 1), defBody (top 1), defScope (top 1), [], []⟩⟩
theorem p0 : RowP C T r0 := ⟨rfl, rfl, rfl, scB_ok (by kernel_rfl), ⟨F0, rfl, rfl, rfl, by kernel_rfl⟩, fun _ _ _ _ _ _ us hl => match us, hl with | [_], _ => rfl⟩
def r1 : Row := ⟨"is_of", 1, ["value", "kind"], 2, [], ⟨("is_of", none), "is_of", "is_of", defArgs (top 2), defBody (top 2), defScope (top 2), [], []⟩⟩
theorem p1 : RowP C T r1 := ⟨rfl, rfl, rfl, scB_ok (by kernel_rfl), ⟨F1, rfl, rfl, rfl, by kernel_rfl⟩, fun _ _ _ _ _ _ us hl => match us, hl with | [_, _], _ => rfl⟩
def r2 : Row := ⟨"_law_cell", 2, ["_law_script", "_law_k"], 2, [], ⟨("_law_cell", none), "_law_cell", "_law_cell", defArgs (top 4), defBody (top 4), defScope (top 4), [], []⟩⟩
theorem p2 : RowP C T r2 := ⟨rfl, rfl, rfl, scB_ok (by kernel_rfl), ⟨F2, rfl, rfl, rfl, by kernel_rfl⟩, fun _ _ _ _ _ _ us hl => match us, hl with | [_, _], _ => rfl⟩
def r3 : Row := ⟨"_law_mix", 3, ["_law_cell_here", "_law_prime", "_law_many", "_law_blend"], 3, [], ⟨("_law_mix", none), "_law_mix", "_law_mix", defArgs (top 5), defBody (top 5), defScope (top 5), [], []⟩⟩
theorem p3 : RowP C T r3 := ⟨rfl, rfl, rfl, scB_ok (by kernel_rfl), ⟨F3, rfl, rfl, rfl, by kernel_rfl⟩, fun _ _ _ _ _ _ us hl => match us, hl with | [_, _, _], _ => rfl⟩
def r4 : Row := ⟨"_law_text", 4, ["_law_cell_here", "_law_signs", "_law_k"], 1, [], ⟨("_law_text", none), "_law_text", "_law_text", defArgs (top 6), defBody (top 6), defScope (top 6), [], []⟩⟩
theorem p4 : RowP C T r4 := ⟨rfl, rfl, rfl, scB_ok (by kernel_rfl), ⟨F4, rfl, rfl, rfl, by kernel_rfl⟩, fun _ _ _ _ _ _ us hl => match us, hl with | [_], _ => rfl⟩
def r5 : Row := ⟨"_law_value", 5, ["_law_cell_here", "_law_kind_here", "_law_sort", "_law_may"], 2, [], ⟨("_law_value", none), "_law_value", "_law_value", defArgs (top 7), defBody (top 7), defScope (top 7), [], []⟩⟩
theorem p5 : RowP C T r5 := ⟨rfl, rfl, rfl, scB_ok (by kernel_rfl), ⟨F5, rfl, rfl, rfl, by kernel_rfl⟩, fun _ _ _ _ _ _ us hl => match us, hl with | [_, _], _ => rfl⟩
def r6 : Row := ⟨"_law_kind", 6, ["_law_cell_here"], 1, [], ⟨("_law_kind", none), "_law_kind", "_law_kind", defArgs (top 8), defBody (top 8), defScope (top 8), [], []⟩⟩
theorem p6 : RowP C T r6 := ⟨rfl, rfl, rfl, scB_ok (by kernel_rfl), ⟨F6, rfl, rfl, rfl, by kernel_rfl⟩, fun _ _ _ _ _ _ us hl => match us, hl with | [_], _ => rfl⟩
def r7 : Row := ⟨"law", 7, ["_law_script", "_law_k", "_law_cell_here", "_law_kind_here", "_law_sort", "_law_value_here", "_law_due"], 1, [], ⟨("law", none), "law", "law", defArgs (top 9), defBody (top 9), defScope (top 9), [], []⟩⟩
theorem p7 : RowP C T r7 := ⟨rfl, rfl, rfl, scB_ok (by kernel_rfl), ⟨F7, rfl, rfl, rfl, by kernel_rfl⟩, fun _ _ _ _ _ _ us hl => match us, hl with | [_], _ => rfl⟩
def rows : List Row := [r0, r1, r2, r3, r4, r5, r6, r7]
theorem all : AllP (RowP C T) rows := ⟨p0, p1, p2, p3, p4, p5, p6, p7, trivial⟩
def loose : List Str := (["sort_of", "is_of", "_law_cell", "_law_mix", "_law_text", "_law_value", "_law_kind"] : List Str)
abbrev R : PySem.W.OpenRow := PySem.W.OpenLaw.row PySem.Challenge.rw_tablequest_k01_values_and_kinds
abbrev hk : PySem.W.Hook := He.hookD 4 (faOf rows C.fr) (rows.map (·.d))
def ob (s : PySem.W.SharedT) : He.AlD := He.obsDG 4 (faOf rows C.fr) (rows.map (·.d)) (HandSHeadRun.getT s)
theorem ob_eq (s : PySem.W.SharedT) : ob s = hk.obs s.abs := He.obsDG_eq (HandSHeadRun.getT_eq s)
theorem run (w : World) : HandSHeadRun.RunEq R (PySem.W.view R.prog [9]) hk ob 700 loose w := by
  intro os
  kernel_rfl
end K01
end TQ
open PySem PySem.W PySem.Calls PyProof.Rows
theorem PySem.Challenge.cw_tablequest_k01_values_and_kinds_holds : PySem.Challenge.rw_tablequest_k01_values_and_kinds.Holds := by
  w_on; o_law
  refine HandSHeadRun.head_any (r := OpenLaw.row PySem.Challenge.rw_tablequest_k01_values_and_kinds) (q := view (OpenLaw.row PySem.Challenge.rw_tablequest_k01_values_and_kinds).prog [9]) (H := TQ.K01.hk) (ob := TQ.K01.ob) (M := 700) (loose := TQ.K01.loose) (d := HandSHeadRun.topDef (OpenLaw.row PySem.Challenge.rw_tablequest_k01_values_and_kinds).prog 9) (kwd := []) TQ.K01.ob_eq
    (by kernel_rfl) (fun s => by kernel_rfl) TQ.K01.run (by kernel_rfl) (by kernel_rfl) (by kernel_rfl) (by rfl) (by first | assumption | decide +kernel) (by decide +kernel) ⟨rfl, rfl, rfl, rfl, rfl, by decide +kernel⟩ ?hw ?hc
  case hw => w_witness2
  case hc =>
    refine TQ.walk_ofW (l := PySem.Challenge.rw_tablequest_k01_values_and_kinds) (n := 63) (k := 61) (x := "_law_script") (CX := fun w => L2.CX PySem.Challenge.rw_tablequest_k01_values_and_kinds.prog w) rfl (by decide) (by kernel_rfl) ⟨rfl, by decide, by decide⟩ ?F (fun w _ _ _ _ z => by obtain ⟨_, _, _, _, _, _, _, _, _, _, _, _, z⟩ := z; exact z)
    intro w mg fa h Y G hmg0
    obtain ⟨K, KX, c⟩ := Y
    have hmg : mg ("law" : PySem.Str) = some (.ref fa) := by
      have e : (HandSHeadRun.topDef (OpenLaw.row PySem.Challenge.rw_tablequest_k01_values_and_kinds).prog 9).name = ("law" : PySem.Str) := by kernel_rfl
      rw [← e]
      exact hmg0
    exact TQ.facts (P := (PySem.Challenge.rw_tablequest_k01_values_and_kinds).prog) (w := w) (XR := fun _ _ _ _ _ => False) (C := TQ.K01.C) (T := TQ.T) (k := 60) (lw := TQ.K01.r7) KX G c TQ.K01.all rfl rfl rfl (by repeat' first | exact List.mem_cons_self | apply List.mem_cons_of_mem) rfl hmg (fun ns h => TQ.law_ok_k01 ns h)

#print axioms PySem.Challenge.cw_tablequest_k01_values_and_kinds_holds

