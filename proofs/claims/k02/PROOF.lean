import PyProof.Rows.All
import Wide.All
import OpenK.AllK
import Wide.FinOn
import PySem.Challenge.RW_looseends_k02_whole_texts_and_tokens
import HandS.ForMost
import HandS.Exc
import HandS.TryOnly
import HandS.ExcOwn
import HandS.WordsExc
import HandS.Wide
import HandS.Star
import HandS.TupAny
import HandS.IsInst
import HandS.StrMore
import HandS.Defaults
import HandS.HeadEnd
import HandS.Zip
import HandS.Head0
import HandS.Head1
import HandS.Head2
import HandS.HeadHook1
import HandS.HeadHook2
import KE.KStateDown
/-! Lt1: a small language with values in place of a heap: its terms, its evaluation. -/
namespace Lt

/-- data -/
inductive D where
  | non | bl (b : Bool) | int (i : Int) | str (s : List Nat) | tup (xs : List D) | lst (xs : List D)
  | fro (xs : List D)     -- the script: read, never written
  | dic (kvs : List (D × D))
  | ref (n : Nat)         -- an object of the memory
  | itr (xs : List D)     -- what a range, zip, enumerate yields
  deriving Inhabited

/-- the size line of lists and texts -/
def LIM : Nat := 16777216

inductive Ex where
  | mk (c : String) (args : List D)

abbrev Mem := List D
inductive R (α : Type) where
  | ok (a : α) (m : Mem)
  | exc (x : Ex) (m : Mem)
  | stuck
@[simp] def R.bind {α β : Type} (r : R α) (f : α → Mem → R β) : R β := match r with
  | .ok a m => f a m
  | .exc x m => .exc x m
  | .stuck => .stuck
/-- no exception may leave -/
@[simp] def R.calm {α : Type} (r : R α) : R α := match r with
  | .ok a m => .ok a m
  | _ => .stuck
@[simp] def R.of {α : Type} (o : Option α) (m : Mem) : R α := match o with
  | some a => .ok a m
  | none => .stuck

inductive SV where
  | no | val (d : D) | own (d : D)
  | exn (c : String)      -- an exception that is handled, of class c
  deriving Inhabited
abbrev Sl := List SV

inductive Bop where | add | sub | mul | fdiv | mod | pow
inductive Cop where | eq | ne | lt | le | gt | ge | isin | notin | is | isnot
inductive Ty where | str | int | bool | list | tuple | dict
inductive Blt where
  | len | all | any | sum | min1 | max1 | min2 | max2 | int | str | list | tuple | sorted | ord | abs
inductive Mth where
  | find1 | find2 | join | strip1 | index | count
inductive T where
  | nm (i : Nat) | tp (ts : List T)

inductive E where
  | omit
  | var (i : Nat)
  | lit (d : D)
  | glob (x : String) (d : D)
  | bin (op : Bop) (a b : E)
  | neg (a : E)
  | cmp (op : Cop) (a b : E)
  | chain (op op' : Cop) (a b c : E)
  | and (a b : E) | or (a b : E) | not (a : E)
  | ite (c a b : E)
  | tup (es : List E) | lst (es : List E)
  | tupS (es : List E) | lstS (es : List E)      -- with stars
  | star (e : E)
  | idx (a i : E)
  | slc (a lo hi : E)
  | rev (a : E)
  | call (f : String) (es : List E)
  | callK (f : String) (es : List E) (ks : List String) (vs : List E)
  | blt (f : Blt) (es : List E)
  | isi (a : E) (ts : List Ty)
  | isx (a : E) (c : String)
  | mth (m : Mth) (o : E) (es : List E)
  | rng1 (a : E) | rng2 (a b : E) | zip (a b : E) | enum (a : E)
  | lc (t : T) (it c el : E)

inductive S where
  | asg (t : T) (e : E)
  | own (i : Nat) (e : E)
  | thaw (i : Nat) (e : E)
  | par2 (i j : Nat) (a b : E)
  | frz (i : Nat)
  | set (o i e : E)
  | app (o : E) (e : E)
  | ext (o : E) (e : E)
  | exp (e : E)
  | ret (g : Bool) (e : E)     -- g: a list is not handed back but a slot's own
  | retN
  | never
  | iff (c : E) (a b : List S)
  | whl (c : E) (b : List S)
  | for (t : T) (it : E) (b : List S)
  | raise (c : String) (es : List E)
  | tr (b : List S) (c : String) (i : Option Nat) (h : List S)
  | pass | brk | cnt

/-! ### operations on data -/
mutual
/-- python's == -/
def eqD : D → D → Bool
  | .non, .non => true
  | .bl a, .bl b => a == b
  | .bl a, .int j => (if a then 1 else 0) == j
  | .int i, .bl b => i == (if b then 1 else 0)
  | .int i, .int j => i == j
  | .str x, .str y => x == y
  | .lst xs, .lst ys => eqDs xs ys
  | .tup xs, .tup ys => eqDs xs ys
  | _, _ => false
def eqDs : List D → List D → Bool
  | [], [] => true
  | x :: xs, y :: ys => eqD x y && eqDs xs ys
  | _, _ => false
end
mutual
/-- how deep; data that == reads alone -/
def dep : D → Option Nat
  | .non | .bl _ | .int _ | .str _ => some 0
  | .lst xs | .tup xs => (depA xs).map (· + 1)
  | _ => none
def depA : List D → Option Nat
  | [] => some 0
  | x :: xs => match dep x, depA xs with
    | some a, some b => some (max a b)
    | _, _ => none
end
/-- may x == y be asked -/
def eqOk (x y : D) : Bool := match dep x, dep y with
  | some a, some b => decide (min a b ≤ 64)
  | _, _ => false

def pyIx (n : Nat) (i : Int) : Option Nat := if 0 ≤ i then (if i < n then some i.toNat else none) else if -(n : Int) ≤ i then some (i + n).toNat else none
def atD (xs : List D) (i : Int) : Option D := (pyIx xs.length i).bind fun j => xs[j]?
def sIx (n d : Nat) : Option Int → Nat
  | none => d
  | some v => if v < 0 then (v + (n : Int)).toNat else min v.toNat n
def cut {α : Type} (xs : List α) (lo hi : Option Int) : List α := (xs.drop (sIx xs.length 0 lo)).take (sIx xs.length xs.length hi - sIx xs.length 0 lo)
/-- the first place of p in s from i on -/
def findFrom (p : List Nat) : List Nat → Nat → Option Nat
  | [], i => if p.isEmpty then some i else none
  | c :: s, i => if p.isPrefixOf (c :: s) then some i else findFrom p s (i + 1)
def isSub (p s : List Nat) : Bool := (findFrom p s 0).isSome
def joinC (sep : List Nat) : List (List Nat) → List Nat
  | [] => []
  | [x] => x
  | x :: r => x ++ sep ++ joinC sep r
def flatD : D → Bool
  | .non | .bl _ | .int _ | .str _ => true
  | _ => false
def strsOf : List D → Option (List (List Nat))
  | [] => some []
  | .str s :: r => (strsOf r).map (s :: ·)
  | _ => none
def intsOf : List D → Option (List Int)
  | [] => some []
  | .int s :: r => (intsOf r).map (s :: ·)
  | _ => none
def blsOf : List D → Option (List Bool)
  | [] => some []
  | .bl s :: r => (blsOf r).map (s :: ·)
  | _ => none

def binD : Bop → D → D → Option D
  | .add, .int i, .int j => some (.int (i + j))
  | .add, .str a, .str b => if a.length + b.length ≤ LIM then some (.str (a ++ b)) else none
  | .add, .lst a, .lst b => if a.length + b.length ≤ LIM then some (.lst (a ++ b)) else none
  | .add, .tup a, .tup b => if a.length + b.length ≤ LIM then some (.tup (a ++ b)) else none
  | .sub, .int i, .int j => some (.int (i - j))
  | .mul, .int i, .int j => if i.natAbs.log2 + j.natAbs.log2 < 1000000 then some (.int (i * j)) else none
  | .fdiv, .int i, .int j => if 0 < j ∧ j.natAbs.log2 < 9000 then some (.int (i / j)) else none
  | .mod, .int i, .int j => if 0 < j then some (.int (i % j)) else none
  | .pow, .int i, .int j => if 0 ≤ j ∧ ((i.natAbs.log2 + 1 : Nat) : Int) * j ≤ 2 ^ 27 then some (.int (i ^ j.toNat)) else none
  | _, _, _ => none
def inL (x : D) (xs : List D) : Option Bool := if flatD x && xs.all flatD then some (xs.any fun y => eqD y x) else none
def inD : D → D → Option Bool
  | .str p, .str s => if p.isEmpty then none else some (isSub p s)
  | x, .lst xs => inL x xs
  | x, .tup xs => inL x xs
  | _, _ => none
def cmpD : Cop → D → D → Option Bool
  | .eq, x, y => if eqOk x y then some (eqD x y) else none
  | .ne, x, y => if eqOk x y then some (!eqD x y) else none
  | .lt, .int i, .int j => some (decide (i < j))
  | .le, .int i, .int j => some (decide (i ≤ j))
  | .gt, .int i, .int j => some (decide (j < i))
  | .ge, .int i, .int j => some (decide (j ≤ i))
  | .lt, .str i, .str j => some (decide (i < j))
  | .le, .str i, .str j => some (decide (i ≤ j))
  | .isin, x, y => inD x y
  | .notin, x, y => (inD x y).map (!·)
  | .is, .non, .non => some true
  | .is, .bl _, .non | .is, .int _, .non | .is, .str _, .non | .is, .tup _, .non | .is, .lst _, .non => some false
  | .isnot, .non, .non => some false
  | .isnot, .bl _, .non | .isnot, .int _, .non | .isnot, .str _, .non | .isnot, .tup _, .non | .isnot, .lst _, .non => some true
  | _, _, _ => none
def idxD : D → D → Option D
  | .lst xs, .int i => atD xs i
  | .fro xs, .int i => atD xs i
  | .tup xs, .int i => atD xs i
  | .str s, .int i => (pyIx s.length i).bind fun j => (s[j]?).map fun c => .str [c]
  | _, _ => none
def slcD : D → Option Int → Option Int → Option D
  | .lst xs, lo, hi => some (.lst (cut xs lo hi))
  | .tup xs, lo, hi => some (.tup (cut xs lo hi))
  | .str s, lo, hi => some (.str (cut s lo hi))
  | _, _, _ => none
def revD : D → Option D
  | .lst xs => some (.lst xs.reverse)
  | .tup xs => some (.tup xs.reverse)
  | .str s => some (.str s.reverse)
  | _ => none
def isTy : D → Ty → Bool
  | .str _, .str => true
  | .int _, .int => true
  | .bl _, .int => true
  | .bl _, .bool => true
  | .lst _, .list => true
  | .fro _, .list => true
  | .tup _, .tuple => true
  | .dic _, .dict => true
  | _, _ => false
def itemsD : D → Option (List D)
  | .lst xs => some xs
  | .fro xs => some xs
  | .tup xs => some xs
  | .str s => some (s.map fun c => .str [c])
  | .itr xs => some xs
  | _ => none
def bltD : Blt → List D → Option D
  | .len, [.lst xs] => some (.int xs.length)
  | .len, [.fro xs] => some (.int xs.length)
  | .len, [.tup xs] => some (.int xs.length)
  | .len, [.str s] => some (.int s.length)
  | .all, [.lst xs] => (blsOf xs).map fun l => .bl (l.all id)
  | .any, [.lst xs] => (blsOf xs).map fun l => .bl (l.any id)
  | .sum, [.lst xs] => (intsOf xs).map fun l => .int l.sum
  | .min2, [.int i, .int j] => some (.int (if j < i then j else i))
  | .max2, [.int i, .int j] => some (.int (if j > i then j else i))
  | .int, [.int i] => some (.int i)
  | .int, [.bl b] => some (.int (if b then 1 else 0))
  | .list, [.lst xs] => some (.lst xs)
  | .list, [.tup xs] => some (.lst xs)
  | .tuple, [.lst xs] => some (.tup xs)
  | .tuple, [.tup xs] => some (.tup xs)
  | .ord, [.str [c]] => some (.int c)
  | .abs, [.int i] => some (.int (if i < 0 then -i else i))
  | _, _ => none
/-- the method's own type -/
def mthT : Mth → D → Bool
  | .find1, .str _ | .find2, .str _ | .join, .str _ | .strip1, .str _ => true
  | .index, .lst _ | .count, .lst _ => true
  | _, _ => false
def mthD : Mth → D → List D → Option D
  | .find1, .str s, [.str p] => if p.isEmpty then none else some (.int (match findFrom p s 0 with | some i => i | none => -1))
  | .find2, .str s, [.str p, .int i] => if p.isEmpty ∨ i < 0 ∨ (s.length : Int) < i then none else some (.int (match findFrom p (s.drop i.toNat) i.toNat with | some i => i | none => -1))
  | .join, .str s, [.lst xs] => (strsOf xs).bind fun l => if (l.map List.length).sum + s.length * l.length ≤ LIM then some (.str (joinC s l)) else none
  | _, _, _ => none

/-! ### slots -/
@[simp] def getS : Sl → Nat → SV
  | [], _ => .no
  | v :: _, 0 => v
  | _ :: r, n + 1 => getS r n
@[simp] def setS : Sl → Nat → SV → Sl
  | [], _, _ => []
  | _ :: r, 0, w => w :: r
  | v :: r, n + 1, w => v :: setS r n w
/-- an object of the memory by its content -/
@[simp] def deref (m : Mem) : D → D
  | .ref j => match m[j]? with
    | some d => d
    | none => .non
  | d => d
/-- an operand that is only read: a list that a slot owns may be meant -/
@[simp] def rdV (sl : Sl) (e : E) (m : Mem) (r : R D) : R D := match e with
  | .var i => match getS sl i with
    | .val d => .ok d m
    | .own d => .ok d m
    | _ => .stuck
  | _ => r
mutual
/-- a target's slots emptied -/
def clr : T → Sl → Sl
  | .nm i, sl => setS sl i .no
  | .tp ts, sl => clrs ts sl
def clrs : List T → Sl → Sl
  | [], sl => sl
  | t :: ts, sl => clrs ts (clr t sl)
end
/-- an optional part of a slice -/
@[simp] def optV (e : E) (m : Mem) (r : R D) : R (Option Int) := match e with
  | .omit => .ok none m
  | _ => r.bind fun x m => match x with
    | .int i => .ok (some i) m
    | _ => .stuck
mutual
/-- the stores of a target -/
def tgt : T → D → Sl → Option Sl
  | .nm i, d, sl => some (setS sl i (.val d))
  | .tp ts, .tup xs, sl => tgts ts xs sl
  | .tp _, _, _ => none
def tgts : List T → List D → Sl → Option Sl
  | [], [], sl => some sl
  | t :: ts, d :: ds, sl => (tgt t d sl).bind (tgts ts ds)
  | _, _, _ => none
end
@[simp] def truD : D → Option Bool
  | .bl b => some b
  | .non => some false
  | .int i => some (i != 0)
  | .str s => some (!s.isEmpty)
  | .lst xs => some (!xs.isEmpty)
  | .tup xs => some (!xs.isEmpty)
  | _ => none
def rangeD (a b : Int) : List D := (List.range (b - a).toNat).map fun (k : Nat) => D.int (a + k)
def small62 (i : Int) : Bool := decide (-(2 ^ 62) ≤ i ∧ i < 2 ^ 62)
def zipD : List D → List D → List D
  | x :: xs, y :: ys => .tup [x, y] :: zipD xs ys
  | _, _ => []
def enumD (k : Int) : List D → List D
  | x :: xs => .tup [.int k, x] :: enumD (k + 1) xs
  | [] => []

/-- what stands around: the calls of defs, a call's keywords put into the parameters' order, which error classes lie beneath which, the turns of a while -/
structure Cv where
  C : String → List D → Mem → R D
  K : String → Nat → List String → Option (List Nat)
  sub : String → String → Bool
  wf : Nat

/-- a comprehension over the items: what is made, in order -/
def lcGo (f : D → Mem → R (Option D)) : List D → Mem → R (List D)
  | [], m => .ok [] m
  | x :: xs, m => (f x m).bind fun o m => (lcGo f xs m).bind fun r m => .ok (match o with | some d => d :: r | none => r) m

mutual
def ev (v : Cv) : E → Sl → Mem → R D
  | .var i, sl, m => match getS sl i with
    | .val d => .ok d m
    | _ => .stuck
  | .lit d, _, m => .ok d m
  | .glob _ d, _, m => .ok d m
  | .bin op a b, sl, m => (rdV sl a m (ev v a sl m)).bind fun x m => (rdV sl b m (ev v b sl m)).bind fun y m => R.of (binD op (deref m x) (deref m y)) m
  | .neg a, sl, m => (ev v a sl m).bind fun x m => match x with
    | .int i => .ok (.int (-i)) m
    | _ => .stuck
  | .cmp op a b, sl, m => (rdV sl a m (ev v a sl m)).bind fun x m => (rdV sl b m (ev v b sl m)).bind fun y m => R.of ((cmpD op (deref m x) (deref m y)).map .bl) m
  | .chain op op' a b c, sl, m => (rdV sl a m (ev v a sl m)).bind fun x m => (rdV sl b m (ev v b sl m)).bind fun y m =>
      match cmpD op (deref m x) (deref m y) with
      | some true => (rdV sl c m (ev v c sl m)).bind fun z m => R.of ((cmpD op' (deref m y) (deref m z)).map .bl) m
      | some false => .ok (.bl false) m
      | none => .stuck
  | .and a b, sl, m => (ev v a sl m).bind fun x m => match x with
    | .bl true => ev v b sl m
    | .bl false => .ok (.bl false) m
    | _ => .stuck
  | .or a b, sl, m => (ev v a sl m).bind fun x m => match x with
    | .bl true => .ok (.bl true) m
    | .bl false => ev v b sl m
    | _ => .stuck
  | .not a, sl, m => (ev v a sl m).bind fun x m => match x with
    | .bl b => .ok (.bl (!b)) m
    | _ => .stuck
  | .ite c a b, sl, m => (ev v c sl m).bind fun x m => match x with
    | .bl true => ev v a sl m
    | .bl false => ev v b sl m
    | _ => .stuck
  | .tup es, sl, m => (evs v es sl m).bind fun xs m => .ok (.tup xs) m
  | .lst es, sl, m => (evs v es sl m).bind fun xs m => .ok (.lst xs) m
  | .tupS es, sl, m => (evS v es sl m).bind fun xs m => if xs.length ≤ LIM then .ok (.tup xs) m else .stuck
  | .lstS es, sl, m => (evS v es sl m).bind fun xs m => if xs.length ≤ LIM then .ok (.lst xs) m else .stuck
  | .idx a i, sl, m => (rdV sl a m (ev v a sl m)).bind fun x m => (ev v i sl m).bind fun y m => R.of (idxD (deref m x) y) m
  | .slc a lo hi, sl, m => (rdV sl a m (ev v a sl m)).bind fun x m => (optV lo m (ev v lo sl m)).bind fun l m => (optV hi m (ev v hi sl m)).bind fun h m => R.of (slcD (deref m x) l h) m
  | .rev a, sl, m => (rdV sl a m (ev v a sl m)).bind fun x m => R.of (revD (deref m x)) m
  | .call f es, sl, m => (evs v es sl m).bind fun xs m => v.C f xs m
  | .callK f es ks vs, sl, m => (evs v es sl m).bind fun xs m => (evs v vs sl m).bind fun ys m => match v.K f xs.length ks with
    | some p => v.C f (p.map fun i => (xs ++ ys).getD i .non) m
    | none => .stuck
  | .blt f es, sl, m => (evr v es sl m).bind fun xs m => R.of (bltD f (xs.map (deref m))) m
  | .isi a ts, sl, m => (rdV sl a m (ev v a sl m)).bind fun x m => .ok (.bl (ts.any (isTy (deref m x)))) m
  | .isx a c, sl, m => match a with
    | .var i => (match getS sl i with
      | .exn c' => .ok (.bl (v.sub c' c)) m
      | _ => .stuck)
    | _ => .stuck
  | .mth f o es, sl, m => (rdV sl o m (ev v o sl m)).bind fun x m => if mthT f (deref m x) = false then .stuck else (evr v es sl m).bind fun xs m => R.of (mthD f (deref m x) (xs.map (deref m))) m
  | .lc t it c el, sl, m => (ev v it sl m).bind fun it' m => (R.of (itemsD it') m).bind fun xs m => (lcGo (fun x m => match tgt t x (clr t sl) with
      | some sl' => (match c with
        | .omit => (ev v el sl' m).calm.bind fun d m => .ok (some d) m
        | c => (ev v c sl' m).calm.bind fun b m => match b with
          | .bl true => (ev v el sl' m).calm.bind fun d m => .ok (some d) m
          | .bl false => .ok none m
          | _ => .stuck)
      | none => .stuck) xs m).bind fun ds m => .ok (.lst ds) m
  | .omit, _, _ => .stuck
  | .star _, _, _ => .stuck
  | .rng1 a, sl, m => (ev v a sl m).bind fun x m => match x with
    | .int i => if small62 i && decide (i ≤ LIM) then .ok (.itr (rangeD 0 i)) m else .stuck
    | _ => .stuck
  | .rng2 a b, sl, m => (ev v a sl m).bind fun x m => (ev v b sl m).bind fun y m => match x, y with
    | .int i, .int j => if small62 i && small62 j && decide (j - i ≤ LIM) then .ok (.itr (rangeD i j)) m else .stuck
    | _, _ => .stuck
  | .zip a b, sl, m => (ev v a sl m).bind fun x m => (ev v b sl m).bind fun y m => match x, y with
    | .lst xs, .lst ys => .ok (.itr (zipD xs ys)) m
    | .tup xs, .tup ys => .ok (.itr (zipD xs ys)) m
    | _, _ => .stuck
  | .enum a, sl, m => (ev v a sl m).bind fun x m => match x with
    | .lst xs => .ok (.itr (enumD 0 xs)) m
    | .tup xs => .ok (.itr (enumD 0 xs)) m
    | _ => .stuck
def evs (v : Cv) : List E → Sl → Mem → R (List D)
  | [], _, m => .ok [] m
  | e :: es, sl, m => (ev v e sl m).bind fun x m => (evs v es sl m).bind fun xs m => .ok (x :: xs) m
/-- items, some of them with a star -/
def evS (v : Cv) : List E → Sl → Mem → R (List D)
  | [], _, m => .ok [] m
  | .star e :: es, sl, m => (rdV sl e m (ev v e sl m)).bind fun x m => match deref m x with
    | .lst ys => (evS v es sl m).bind fun xs m => .ok (ys ++ xs) m
    | .tup ys => (evS v es sl m).bind fun xs m => .ok (ys ++ xs) m
    | _ => .stuck
  | e :: es, sl, m => (ev v e sl m).bind fun x m => (evS v es sl m).bind fun xs m => .ok (x :: xs) m
/-- operands that are only read -/
def evr (v : Cv) : List E → Sl → Mem → R (List D)
  | [], _, m => .ok [] m
  | e :: es, sl, m => (rdV sl e m (ev v e sl m)).bind fun x m => (evr v es sl m).bind fun xs m => .ok (x :: xs) m
end

/-! ### statements -/
inductive Fl where
  | nx | ret (d : D) | brk | cnt
inductive RS where
  | ok (f : Fl) (sl : Sl) (m : Mem)
  | exc (x : Ex) (sl : Sl) (m : Mem)
  | stuck
@[simp] def R.st {α : Type} (r : R α) (sl : Sl) (f : α → Mem → RS) : RS := match r with
  | .ok a m => f a m
  | .exc x m => .exc x sl m
  | .stuck => .stuck
@[simp] def RS.andThen (r : RS) (f : Sl → Mem → RS) : RS := match r with
  | .ok .nx sl m => f sl m
  | r => r
/-- a loop over the items -/
def forGo (t : T) (body : Sl → Mem → RS) : List D → Sl → Mem → RS
  | [], sl, m => .ok .nx sl m
  | x :: xs, sl, m => match tgt t x sl with
    | none => .stuck
    | some sl' => match body sl' m with
      | .ok .nx sl m => forGo t body xs sl m
      | .ok .cnt sl m => forGo t body xs sl m
      | .ok .brk sl m => .ok .nx sl m
      | r => r
def whlGo (test : Sl → Mem → R D) (body : Sl → Mem → RS) : Nat → Sl → Mem → RS
  | 0, _, _ => .stuck
  | n + 1, sl, m => (test sl m).st sl fun b m => match b with
    | .bl true => (match body sl m with
      | .ok .nx sl m => whlGo test body n sl m
      | .ok .cnt sl m => whlGo test body n sl m
      | .ok .brk sl m => .ok .nx sl m
      | r => r)
    | .bl false => .ok .nx sl m
    | _ => .stuck
/-- o[i] = d, of a content -/
def setD : D → D → D → Option D
  | .lst xs, .int i, d => (pyIx xs.length i).map fun j => .lst (xs.set j d)
  | _, _, _ => none
def appD : D → D → Option D
  | .lst xs, d => if xs.length < LIM then some (.lst (xs ++ [d])) else none
  | _, _ => none
def extD : D → D → Option D
  | .lst xs, .lst ys => if xs.length + ys.length ≤ LIM then some (.lst (xs ++ ys)) else none
  | _, _ => none
/-- an object, a slot's own or the memory's, is changed -/
@[simp] def chg (o : E) (sl : Sl) (m : Mem) (f : D → Option D) : RS := match o with
  | .var i => match getS sl i with
    | .own d => (match f d with
      | some d' => .ok .nx (setS sl i (.own d')) m
      | none => .stuck)
    | .val (.ref j) => (match m[j]? with
      | some d => (match f d with
        | some d' => .ok .nx sl (m.set j d')
        | none => .stuck)
      | none => .stuck)
    | _ => .stuck
  | _ => .stuck
@[simp] def isLst : D → Bool
  | .lst _ => true
  | _ => false
@[simp] def ownV (d : D) : SV := if isLst d then .own d else .val d
@[simp] def isObj (o : E) (sl : Sl) (m : Mem) : Bool := match o with
  | .var i => (match getS sl i with
    | .own d => isLst d
    | .val (.ref j) => (match m[j]? with
      | some d => isLst d
      | none => false)
    | _ => false)
  | _ => false
@[simp] def retS (g : Bool) (d : D) (sl : Sl) (m : Mem) : RS := if g && isLst d then .stuck else .ok (.ret d) sl m
mutual
def ex (v : Cv) : S → Sl → Mem → RS
  | .asg t e, sl, m => (ev v e sl m).st sl fun d m => match tgt t d sl with
    | some sl' => .ok .nx sl' m
    | none => .stuck
  | .own i e, sl, m => (ev v e sl m).st sl fun d m => .ok .nx (setS sl i (ownV d)) m
  | .thaw i e, sl, m => (ev v e sl m).st sl fun d m => if isLst d then .ok .nx (setS sl i (.val (.ref m.length))) (m ++ [d]) else .stuck
  | .par2 i j a b, sl, m => (ev v a sl m).st sl fun x m => (ev v b sl m).st sl fun y m => .ok .nx (setS (setS sl i (.val x)) j (.val y)) m
  | .frz i, sl, m => match getS sl i with
    | .own d => .ok .nx (setS sl i (.val d)) m
    | _ => .ok .nx sl m
  | .never, _, _ => .stuck
  | .set o i e, sl, m => (ev v e sl m).st sl fun d m => if isObj o sl m then (ev v i sl m).st sl fun k m => chg o sl m fun c => setD c k d else .stuck
  | .app o e, sl, m => if isObj o sl m then (ev v e sl m).st sl fun d m => chg o sl m fun c => appD c d else .stuck
  | .ext o e, sl, m => if isObj o sl m then (rdV sl e m (ev v e sl m)).st sl fun d m => chg o sl m fun c => extD c (deref m d) else .stuck
  | .exp e, sl, m => (ev v e sl m).st sl fun _ m => .ok .nx sl m
  | .ret g e, sl, m => match e with
    | .var i => (match getS sl i with
      | .own d => .ok (.ret d) sl m
      | .val d => retS g d sl m
      | _ => .stuck)
    | e => (ev v e sl m).st sl fun d m => retS g d sl m
  | .retN, sl, m => .ok (.ret .non) sl m
  | .iff c a b, sl, m => (ev v c sl m).st sl fun x m => match x with
    | .bl true => exs v a sl m
    | .bl false => exs v b sl m
    | _ => .stuck
  | .whl c b, sl, m => whlGo (ev v c) (exs v b) v.wf sl m
  | .for t it b, sl, m => (ev v it sl m).st sl fun x m => match itemsD x with
    | some xs => forGo t (exs v b) xs sl m
    | none => .stuck
  | .raise c es, sl, m => (evs v es sl m).st sl fun ds m => .exc (.mk c ds) sl m
  | .tr b c i h, sl, m => match exs v b sl m with
    | .exc (.mk c' ds) sl' m' => if v.sub c' c then
        (match i with
        | some i => (match exs v h (setS sl' i (.exn c')) m' with
          | .ok f sl m => .ok f (setS sl i .no) m
          | _ => .stuck)
        | none => exs v h sl' m')
      else .exc (.mk c' ds) sl' m'
    | r => r
  | .pass, sl, m => .ok .nx sl m
  | .brk, sl, m => .ok .brk sl m
  | .cnt, sl, m => .ok .cnt sl m
def exs (v : Cv) : List S → Sl → Mem → RS
  | [], sl, m => .ok .nx sl m
  | s :: r, sl, m => (ex v s sl m).andThen (exs v r)
end

/-! ### defs -/
structure Fn where
  ps : List String      -- the parameters
  n : Nat               -- the slots in all, parameters first
  fresh : Bool          -- a list that is handed back is new
  body : List S
structure Tab where
  fn : String → Option Fn
  sub : String → String → Bool
  gl : String → Option D        -- the module's constants
def kwOf (G : Tab) (f : String) (n : Nat) (ks : List String) : Option (List Nat) := (G.fn f).bind fun d =>
  let l := d.ps.take n ++ ks
  let p := d.ps.map fun x => l.idxOf x
  if p.all (· < l.length) && l.length == d.ps.length then some p else none
/-- a call of the def f, n calls deep -/
def call (G : Tab) (wf : Nat) : Nat → String → List D → Mem → R D
  | 0, _, _, _ => .stuck
  | n + 1, f, ds, m => match G.fn f with
    | none => .stuck
    | some d => if ds.length = d.ps.length then
        match exs ⟨call G wf n, kwOf G, G.sub, wf⟩ d.body (ds.map .val ++ List.replicate (d.n - d.ps.length) .no) m with
        | .ok (.ret x) _ m => .ok x m
        | .ok .nx _ m => .ok .non m
        | .exc x _ m => .exc x m
        | _ => .stuck
      else .stuck
@[reducible] def cvOf (G : Tab) (wf n : Nat) : Cv := ⟨call G wf n, kwOf G, G.sub, wf⟩
end Lt

set_option Elab.async false
set_option linter.all false
set_option maxRecDepth 100000
set_option maxHeartbeats 4000000
/-! Lt2: how the values of Lt stand in the abstract heap; expressions. -/
namespace Lt
open PySem PySem.Spec PyProof.Rows L2

theorem LIM_eq : sizeLine = LIM := by rw [sizeLine_eq]; rfl

/-! ### data in the frozen part F of the heap; m: where the memory's objects lie -/
mutual
def VD (F : Hp) (m : List Addr) : D → V → Prop
  | .non, v => v = .non
  | .bl b, v => v = .bl b
  | .int i, v => v = .int i
  | .str s, v => v = .str ⟨s.toArray⟩ ∧ (∀ c ∈ s, c < 1114112) ∧ s.length ≤ LIM
  | .tup xs, v => ∃ a vs, v = .ref a ∧ F a = some (.tup vs) ∧ VDs F m xs vs
  | .lst xs, v => ∃ a vs, v = .ref a ∧ F a = some (.lst vs) ∧ VDs F m xs vs
  | .fro xs, v => ∃ a o vs, v = .ref a ∧ F a = some (.frz o (.lst vs)) ∧ VDs F m xs vs
  | .ref j, v => ∃ a, v = .ref a ∧ m[j]? = some a
  | _, _ => False
def VDs (F : Hp) (m : List Addr) : List D → List V → Prop
  | [], vs => vs = []
  | x :: xs, vs => ∃ w ws, vs = w :: ws ∧ VD F m x w ∧ VDs F m xs ws
end
/-- the content of an object that may change -/
def Cont (F : Hp) (m : List Addr) (H : Hp) (a : Addr) : D → Prop
  | .lst xs => ∃ vs, H a = some (.lst vs) ∧ VDs F m xs vs
  | _ => False
structure Core (F : Hp) (m : List Addr) (mem : Mem) (H : Hp) : Prop where
  sub : ∀ a o, F a = some o → H a = some o
  len : m.length = mem.length
  nd : m.Nodup
  obj : ∀ (j : Nat) a d, m[j]? = some a → mem[j]? = some d → F a = none ∧ Cont F m H a d
structure Step (F : Hp) (m : List Addr) (H : Hp) (F' : Hp) (m' : List Addr) (H' : Hp) : Prop where
  sub : ∀ a o, F a = some o → F' a = some o
  fro : ∀ a, F a = none → H a ≠ none → F' a = none
  mm : ∃ new, m' = m ++ new ∧ ∀ a ∈ new, H a = none
  keep : ∀ a o, H a = some o → a ∉ m → H' a = some o
  dom : ∀ a, H a ≠ none → H' a ≠ none
variable {F F' F1 F2 : Hp} {m m' m1 m2 : List Addr} {H H' H1 H2 B : Hp} {mem mem' mem1 mem2 : Mem}
theorem Step.refl : Step F m H F m H := ⟨fun _ _ h => h, fun _ h _ => h, ⟨[], by simp, by simp⟩, fun _ _ h _ => h, fun _ h => h⟩
theorem Step.trans (s : Step F m H F1 m1 H1) (t : Step F1 m1 H1 F2 m2 H2) : Step F m H F2 m2 H2 := by
  obtain ⟨n1, e1, h1⟩ := s.mm
  obtain ⟨n2, e2, h2⟩ := t.mm
  refine ⟨fun a o h => t.sub a o (s.sub a o h), fun a h h' => t.fro a (s.fro a h h') (s.dom a h'), ⟨n1 ++ n2, by rw [e2, e1, List.append_assoc], fun a ha => ?_⟩, fun a o h hm => ?_, fun a h => t.dom a (s.dom a h)⟩
  · rcases List.mem_append.mp ha with ha | ha
    · exact h1 a ha
    · cases e : H a with
      | none => rfl
      | some o => exact absurd (h2 a ha) (s.dom a (by rw [e]; simp))
  · refine t.keep a o (s.keep a o h hm) ?_
    rw [e1]
    intro z
    rcases List.mem_append.mp z with z | z
    · exact hm z
    · rw [h1 a z] at h; cases h
/-- a new object -/
theorem Step.new {p : Addr} {o : HO} (hp : H p = none) (hF : F p = none) : Step F m H (upd F p o) m (upd H p o) := by
  refine ⟨fun a u h => ?_, fun a h h' => ?_, ⟨[], by simp, by simp⟩, fun a u h _ => ?_, fun a h => ?_⟩
  · rw [upd_ne (ne_of_none h hF)]; exact h
  · have : a ≠ p := by rintro rfl; exact h' hp
    rw [upd_ne this]; exact h
  · rw [upd_ne (ne_of_none h hp)]; exact h
  · have : a ≠ p := by rintro rfl; exact h hp
    rw [upd_ne this]; exact h
/-- a new object that is not frozen yet -/
theorem Step.newO {p : Addr} {o : HO} (hp : H p = none) : Step F m H F m (upd H p o) := by
  refine ⟨fun a u h => h, fun a h _ => h, ⟨[], by simp, by simp⟩, fun a u h _ => ?_, fun a h => ?_⟩
  · rw [upd_ne (ne_of_none h hp)]; exact h
  · have : a ≠ p := by rintro rfl; exact h hp
    rw [upd_ne this]; exact h
theorem Core.freeF (c : Core F m mem H) {p : Addr} (hp : H p = none) : F p = none := by
  cases e : F p with
  | none => rfl
  | some o => rw [c.sub p o e] at hp; cases hp
theorem getE_pre {α : Type} {l new : List α} {j : Nat} {a : α} (h : l[j]? = some a) : (l ++ new)[j]? = some a := by
  obtain ⟨h1, h2⟩ := List.getElem?_eq_some_iff.mp h
  rw [List.getElem?_append_left h1, h]
mutual
theorem VD.mono (hs : ∀ a o, F a = some o → F' a = some o) (hm : ∃ new, m' = m ++ new) : ∀ (d : D) (v : V), VD F m d v → VD F' m' d v
  | .non, v, h => by simpa [VD] using h
  | .bl _, v, h => by simpa [VD] using h
  | .int _, v, h => by simpa [VD] using h
  | .str _, v, h => by simpa [VD] using h
  | .tup xs, v, h => by
    obtain ⟨a, vs, e, h1, h2⟩ := (by simpa [VD] using h : ∃ a vs, v = .ref a ∧ F a = some (.tup vs) ∧ VDs F m xs vs)
    simp only [VD]
    exact ⟨a, vs, e, hs _ _ h1, VDs.mono hs hm xs vs h2⟩
  | .lst xs, v, h => by
    obtain ⟨a, vs, e, h1, h2⟩ := (by simpa [VD] using h : ∃ a vs, v = .ref a ∧ F a = some (.lst vs) ∧ VDs F m xs vs)
    simp only [VD]
    exact ⟨a, vs, e, hs _ _ h1, VDs.mono hs hm xs vs h2⟩
  | .fro xs, v, h => by
    obtain ⟨a, o, vs, e, h1, h2⟩ := (by simpa [VD] using h : ∃ a o vs, v = .ref a ∧ F a = some (.frz o (.lst vs)) ∧ VDs F m xs vs)
    simp only [VD]
    exact ⟨a, o, vs, e, hs _ _ h1, VDs.mono hs hm xs vs h2⟩
  | .ref j, v, h => by
    obtain ⟨a, e, h1⟩ := (by simpa [VD] using h : ∃ a, v = .ref a ∧ m[j]? = some a)
    obtain ⟨new, rfl⟩ := hm
    simp only [VD]
    exact ⟨a, e, getE_pre h1⟩
  | .dic _, v, h => by simp [VD] at h
  | .itr _, v, h => by simp [VD] at h
theorem VDs.mono (hs : ∀ a o, F a = some o → F' a = some o) (hm : ∃ new, m' = m ++ new) : ∀ (d : List D) (v : List V), VDs F m d v → VDs F' m' d v
  | [], v, h => by simpa [VDs] using h
  | x :: xs, v, h => by
    obtain ⟨w, ws, e, h1, h2⟩ := (by simpa [VDs] using h : ∃ w ws, v = w :: ws ∧ VD F m x w ∧ VDs F m xs ws)
    simp only [VDs]
    exact ⟨w, ws, e, VD.mono hs hm x w h1, VDs.mono hs hm xs ws h2⟩
end
theorem VD.step {d : D} {v : V} (s : Step F m H F' m' H') (h : VD F m d v) : VD F' m' d v := VD.mono s.sub (let ⟨n, e, _⟩ := s.mm; ⟨n, e⟩) d v h
theorem VDs.step {d : List D} {v : List V} (s : Step F m H F' m' H') (h : VDs F m d v) : VDs F' m' d v := VDs.mono s.sub (let ⟨n, e, _⟩ := s.mm; ⟨n, e⟩) d v h
theorem VDs.length : ∀ {d : List D} {v : List V}, VDs F m d v → d.length = v.length
  | [], v, h => by simp [VDs] at h; simp [h]
  | x :: xs, v, h => by
    obtain ⟨w, ws, e, h1, h2⟩ := (by simpa [VDs] using h : ∃ w ws, v = w :: ws ∧ VD F m x w ∧ VDs F m xs ws)
    rw [e, List.length_cons, List.length_cons, VDs.length h2]
theorem VDs.get : ∀ {d : List D} {v : List V} {i : Nat} {x : D}, VDs F m d v → d[i]? = some x → ∃ w, v[i]? = some w ∧ VD F m x w
  | [], v, i, x, h, e => by simp at e
  | y :: ys, v, i, x, h, e => by
    obtain ⟨w, ws, e1, h1, h2⟩ := (by simpa [VDs] using h : ∃ w ws, v = w :: ws ∧ VD F m y w ∧ VDs F m ys ws)
    subst e1
    cases i with
    | zero => simp at e; subst e; exact ⟨w, rfl, h1⟩
    | succ i => obtain ⟨w', a, b⟩ := VDs.get (i := i) h2 (by simpa using e); exact ⟨w', by simpa using a, b⟩
theorem VDs.getV : ∀ {d : List D} {v : List V} {i : Nat} {w : V}, VDs F m d v → v[i]? = some w → ∃ x, d[i]? = some x ∧ VD F m x w
  | [], v, i, x, h, e => by simp [VDs] at h; subst h; simp at e
  | y :: ys, v, i, x, h, e => by
    obtain ⟨w, ws, e1, h1, h2⟩ := (by simpa [VDs] using h : ∃ w ws, v = w :: ws ∧ VD F m y w ∧ VDs F m ys ws)
    subst e1
    cases i with
    | zero => simp at e; subst e; exact ⟨y, rfl, h1⟩
    | succ i => obtain ⟨w', a, b⟩ := VDs.getV (i := i) h2 (by simpa using e); exact ⟨w', by simpa using a, b⟩
theorem VDs.cons {x : D} {w : V} {d : List D} {v : List V} (h1 : VD F m x w) (h2 : VDs F m d v) : VDs F m (x :: d) (w :: v) := by
  simp only [VDs]; exact ⟨w, v, rfl, h1, h2⟩
theorem VDs.nil : VDs F m [] [] := by simp [VDs]
theorem VDs.append : ∀ {d e : List D} {v w : List V}, VDs F m d v → VDs F m e w → VDs F m (d ++ e) (v ++ w)
  | [], e, v, w, h, h' => by simp [VDs] at h; subst h; simpa using h'
  | x :: xs, e, v, w, h, h' => by
    obtain ⟨u, us, e1, h1, h2⟩ := (by simpa [VDs] using h : ∃ w ws, v = w :: ws ∧ VD F m x w ∧ VDs F m xs ws)
    subst e1
    exact VDs.cons h1 (VDs.append h2 h')
theorem VDs.take : ∀ {d : List D} {v : List V} (n : Nat), VDs F m d v → VDs F m (d.take n) (v.take n)
  | [], v, n, h => by simp [VDs] at h; subst h; simp [VDs]
  | x :: xs, v, 0, h => by simp [VDs]
  | x :: xs, v, n + 1, h => by
    obtain ⟨u, us, e1, h1, h2⟩ := (by simpa [VDs] using h : ∃ w ws, v = w :: ws ∧ VD F m x w ∧ VDs F m xs ws)
    subst e1
    exact VDs.cons h1 (VDs.take n h2)
theorem VDs.drop : ∀ {d : List D} {v : List V} (n : Nat), VDs F m d v → VDs F m (d.drop n) (v.drop n)
  | [], v, n, h => by simp [VDs] at h; subst h; simp [VDs]
  | x :: xs, v, 0, h => h
  | x :: xs, v, n + 1, h => by
    obtain ⟨u, us, e1, h1, h2⟩ := (by simpa [VDs] using h : ∃ w ws, v = w :: ws ∧ VD F m x w ∧ VDs F m xs ws)
    subst e1
    exact VDs.drop n h2
theorem VDs.reverse : ∀ {d : List D} {v : List V}, VDs F m d v → VDs F m d.reverse v.reverse
  | [], v, h => by simp [VDs] at h; subst h; simp [VDs]
  | x :: xs, v, h => by
    obtain ⟨u, us, e1, h1, h2⟩ := (by simpa [VDs] using h : ∃ w ws, v = w :: ws ∧ VD F m x w ∧ VDs F m xs ws)
    subst e1
    rw [List.reverse_cons, List.reverse_cons]
    exact VDs.append (VDs.reverse h2) (VDs.cons h1 VDs.nil)
theorem VDs.set {x : D} {w : V} (hw : VD F m x w) : ∀ {d : List D} {v : List V} (i : Nat), VDs F m d v → VDs F m (d.set i x) (v.set i w)
  | [], v, i, h => by simp [VDs] at h; subst h; simp [VDs]
  | y :: ys, v, i, h => by
    obtain ⟨u, us, e1, h1, h2⟩ := (by simpa [VDs] using h : ∃ w ws, v = w :: ws ∧ VD F m y w ∧ VDs F m ys ws)
    subst e1
    cases i with
    | zero => exact VDs.cons hw h2
    | succ i => exact VDs.cons h1 (VDs.set hw i h2)
theorem Cont.step {a : Addr} {d : D} (s : Step F m H F' m' H') (ha : a ∉ m) (h : Cont F m H a d) : Cont F' m' H' a d := by
  cases d with
  | lst xs => obtain ⟨vs, e, h⟩ := h; exact ⟨vs, s.keep _ _ e ha, h.step s⟩
  | _ => exact h.elim
/-- the same objects elsewhere untouched -/
theorem Core.step_new {p : Addr} {o : HO} (c : Core F m mem H) (hp : H p = none) : Core (upd F p o) m mem (upd H p o) := by
  have hF := c.freeF hp
  have st : Step F m H (upd F p o) m (upd H p o) := Step.new hp hF
  refine ⟨fun a u h => ?_, c.len, c.nd, fun j a d h1 h2 => ?_⟩
  · by_cases e : a = p
    · subst e; rw [upd_same] at h ⊢; exact h
    · rw [upd_ne e] at h ⊢; exact c.sub a u h
  · obtain ⟨f, k⟩ := c.obj j a d h1 h2
    cases d with
    | lst xs =>
      obtain ⟨vs, e, k⟩ := k
      have ne : a ≠ p := by rintro rfl; rw [hp] at e; cases e
      exact ⟨by rw [upd_ne ne]; exact f, vs, by rw [upd_ne ne]; exact e, k.step st⟩
    | _ => exact k.elim
theorem Core.step_newO {p : Addr} {o : HO} (c : Core F m mem H) (hp : H p = none) : Core F m mem (upd H p o) := by
  have st : Step F m H F m (upd H p o) := Step.newO hp
  refine ⟨fun a u h => ?_, c.len, c.nd, fun j a d h1 h2 => ?_⟩
  · rw [upd_ne (ne_of_none (c.sub a u h) hp)]; exact c.sub a u h
  · obtain ⟨f, k⟩ := c.obj j a d h1 h2
    cases d with
    | lst xs =>
      obtain ⟨vs, e, k⟩ := k
      have ne : a ≠ p := by rintro rfl; rw [hp] at e; cases e
      exact ⟨f, vs, by rw [upd_ne ne]; exact e, k⟩
    | _ => exact k.elim
/-- freezing an object that is tracked, not frozen, not of the memory -/
theorem Core.freeze {p : Addr} {o : HO} (c : Core F m mem H) (hp : H p = some o) (hF : F p = none) (hm : p ∉ m) : Core (upd F p o) m mem H := by
  refine ⟨fun a u h => ?_, c.len, c.nd, fun j a d h1 h2 => ?_⟩
  · by_cases e : a = p
    · subst e; rw [upd_same] at h; rw [← h]; exact hp
    · rw [upd_ne e] at h; exact c.sub a u h
  · obtain ⟨f, k⟩ := c.obj j a d h1 h2
    have ne : a ≠ p := by rintro rfl; exact hm (List.mem_of_getElem? h1)
    refine ⟨by rw [upd_ne ne]; exact f, ?_⟩
    cases d with
    | lst xs =>
      obtain ⟨vs, e, k⟩ := k
      exact ⟨vs, e, VDs.mono (fun b u hb => by rw [upd_ne (ne_of_none hb hF)]; exact hb) ⟨[], by simp⟩ _ _ k⟩
    | _ => exact k.elim

/-! ### values: frozen; new; only read -/
abbrev Rl (α β : Type) := Hp → Hp → List Addr → Hp → α → β → Prop
def PV : Rl D V := fun _ F m _ d v => VD F m d v
def PF : Rl D V := fun H0 F m H d v => match d with
  | .lst xs => ∃ p vs, v = .ref p ∧ H0 p = none ∧ F p = none ∧ p ∉ m ∧ H p = some (.lst vs) ∧ VDs F m xs vs
  | d => VD F m d v
def PR : Rl D V := fun _ F m H d v => VD F m d v ∨ ∃ a, v = .ref a ∧ F a = none ∧ a ∉ m ∧ Cont F m H a d
def PVs : Rl (List D) (List V) := fun _ F m _ d v => VDs F m d v
/-- what the model sees of an operand once the memory's objects are read -/
def RB (F : Hp) (m : List Addr) (H : Hp) : D → V → Prop
  | .lst xs, v => ∃ a vs, v = .ref a ∧ H a = some (.lst vs) ∧ VDs F m xs vs
  | .ref _, _ => False
  | d, v => VD F m d v
theorem RB.of {d : D} {v : V} {H0 : Hp} (c : Core F m mem H) (h : PR H0 F m H d v) : RB F m H (deref mem d) v := by
  rcases h with h | ⟨a, e, _, _, h⟩
  · cases d with
    | lst xs =>
      obtain ⟨a, vs, e, h1, h2⟩ := (by simpa [VD] using h : ∃ a vs, v = .ref a ∧ F a = some (.lst vs) ∧ VDs F m xs vs)
      exact ⟨a, vs, e, c.sub _ _ h1, h2⟩
    | ref j =>
      obtain ⟨a, e, h1⟩ := (by simpa [VD] using h : ∃ a, v = .ref a ∧ m[j]? = some a)
      have hj : j < mem.length := by rw [← c.len]; exact (List.getElem?_eq_some_iff.mp h1).1
      have hd : mem[j]? = some mem[j] := List.getElem?_eq_getElem hj
      obtain ⟨_, k⟩ := c.obj j a _ h1 hd
      simp only [deref, hd]
      revert k
      cases mem[j] with
      | lst xs => rintro ⟨vs, e1, k⟩; exact ⟨a, vs, e, e1, k⟩
      | _ => intro k; exact k.elim
    | _ => exact h
  · cases d with
    | lst xs => obtain ⟨vs, e1, k⟩ := h; exact ⟨a, vs, e, e1, k⟩
    | _ => exact h.elim
theorem PR.step {d : D} {v : V} {H0 H0' : Hp} (s : Step F m H F' m' H') (h : PR H0 F m H d v) : PR H0' F' m' H' d v := by
  rcases h with h | ⟨a, e, f, hm, h⟩
  · exact .inl (h.step s)
  · have hH : H a ≠ none := by
      cases d with
      | lst xs => obtain ⟨vs, e1, k⟩ := h; rw [e1]; simp
      | _ => exact h.elim
    refine .inr ⟨a, e, s.fro a f hH, ?_, h.step s hm⟩
    obtain ⟨new, e2, h2⟩ := s.mm
    rw [e2]
    intro z
    rcases List.mem_append.mp z with z | z
    · exact hm z
    · exact hH (h2 a z)

/-! ### what an evaluation asks -/
/-- an exception of Lt lies so: its class, its own dict -/
abbrev XR := Ex → Value → Option Addr → Hp → Prop
def Res {α β : Type} (xr : XR) (P : Rl α β) (F : Hp) (m : List Addr) (H : Hp) (w : Value → Option Addr → Hp → Prop) (Q : β → Hp → Prop) : R α → Prop
  | .ok a mem' => ∀ b F' m' H', Step F m H F' m' H' → Core F' m' mem' H' → P H F' m' H' a b → Q b H'
  | .exc x mem' => ∀ c d F' m' H', Step F m H F' m' H' → Core F' m' mem' H' → xr x c d H' → w c d H'
  | .stuck => False
/-- the start may be put back -/
structure Anti {α β : Type} (P : Rl α β) : Prop where
  ap : ∀ {F m H F1 m1 H1 F' m' H' a b}, Step F m H F1 m1 H1 → P H1 F' m' H' a b → P H F' m' H' a b
theorem PV.anti : Anti PV := ⟨fun _ h => h⟩
theorem PVs.anti : Anti PVs := ⟨fun _ h => h⟩
theorem PR.anti : Anti PR := ⟨fun _ h => h⟩
theorem PF.anti : Anti PF := ⟨fun {F m H F1 m1 H1 F' m' H' a b} s h => by
  cases a with
  | lst xs =>
    obtain ⟨p, vs, e, h1, h2⟩ := h
    refine ⟨p, vs, e, ?_, h2⟩
    cases q : H p with
    | none => rfl
    | some o => exact absurd h1 (s.dom p (by rw [q]; simp))
  | _ => exact h⟩
section
variable {α β γ δ : Type} {xr : XR} {P : Rl α β} {P2 : Rl γ δ} {w : Value → Option Addr → Hp → Prop} {Q : β → Hp → Prop} {Q2 : δ → Hp → Prop} {r : R α}
theorem Res.mono {Q' : β → Hp → Prop} (h : Res xr P F m H w Q r) (hq : ∀ b H, Q b H → Q' b H) : Res xr P F m H w Q' r := by
  cases r with
  | ok a mem' => exact fun b F' m' H' s c p => hq _ _ (h b F' m' H' s c p)
  | exc x mem' => exact h
  | stuck => exact h
theorem Res.step (ha : Anti P) (s : Step F m H F1 m1 H1) (h : Res xr P F m H w Q r) : Res xr P F1 m1 H1 w Q r := by
  cases r with
  | ok a mem' => exact fun b F' m' H' s' c p => h b F' m' H' (s.trans s') c (ha.ap s p)
  | exc x mem' => exact fun c d F' m' H' s' k p => h c d F' m' H' (s.trans s') k p
  | stuck => exact h
theorem Res.bind {f : α → Mem → R γ} (ha : Anti P2) (h : Res xr P2 F m H w Q2 (r.bind f)) :
    Res xr P F m H w (fun b H1 => ∃ F1 m1 a mem1, Step F m H F1 m1 H1 ∧ Core F1 m1 mem1 H1 ∧ P H F1 m1 H1 a b ∧ r = .ok a mem1 ∧ Res xr P2 F1 m1 H1 w Q2 (f a mem1)) r := by
  cases r with
  | ok a mem' => exact fun b F' m' H' s c p => ⟨F', m', a, mem', s, c, p, rfl, Res.step ha s h⟩
  | exc x mem' => exact h
  | stuck => exact h
end

/-! ### slots -/
/-- what is in a slot; a, the address of the exception that is handled -/
def SlotR (B F : Hp) (m : List Addr) (H : Hp) (xa : Option Addr) : SV → Option (Option V) → Prop
  | .no, _ => True
  | .exn _, o => ∃ a, xa = some a ∧ o = some (some (.ref a))
  | .val d, o => ∃ v, o = some (some v) ∧ VD F m d v
  | .own d, o => ∃ a, o = some (some (.ref a)) ∧ F a = none ∧ a ∉ m ∧ B a = none ∧ Cont F m H a d
structure Slots (B F : Hp) (m : List Addr) (H : Hp) (xa : Option Addr) (sl : Sl) (σ : L2.St) : Prop where
  len : sl.length = σ.length
  at_ : ∀ i, SlotR B F m H xa (getS sl i) σ[i]?
  one : ∀ i j d e a, i ≠ j → getS sl i = .own d → getS sl j = .own e → σ[i]? = some (some (.ref a)) → σ[j]? ≠ some (some (.ref a))
variable {xa : Option Addr} {sl : Sl} {σ : L2.St}
theorem Cont.some {a : Addr} {d : D} (h : Cont F m H a d) : H a ≠ none := by
  cases d with
  | lst xs => obtain ⟨vs, e1, k⟩ := h; rw [e1]; simp
  | _ => exact h.elim
theorem SlotR.step {v : SV} {o : Option (Option V)} (s : Step F m H F' m' H') (h : SlotR B F m H xa v o) : SlotR B F' m' H' xa v o := by
  cases v with
  | no => trivial
  | exn c => exact h
  | val d => obtain ⟨v, e, h⟩ := h; exact ⟨v, e, h.step s⟩
  | own d =>
    obtain ⟨a, e, f, hm, hb, h⟩ := h
    refine ⟨a, e, s.fro a f h.some, ?_, hb, h.step s hm⟩
    obtain ⟨new, e2, h2⟩ := s.mm
    rw [e2]
    intro z
    rcases List.mem_append.mp z with z | z
    · exact hm z
    · exact h.some (h2 a z)
theorem Slots.step (s : Step F m H F' m' H') (h : Slots B F m H xa sl σ) : Slots B F' m' H' xa sl σ := ⟨h.len, fun i => (h.at_ i).step s, h.one⟩
end Lt

set_option Elab.async false
set_option linter.all false
set_option maxRecDepth 100000
set_option maxHeartbeats 4000000
/-! Lt3: the operators. -/
namespace Lt
open PySem PySem.Spec PyProof.Rows L2
variable {F F' F1 F2 : Hp} {m m' m1 m2 : List Addr} {H H' H1 H2 B : Hp} {mem mem' mem1 mem2 : Mem} {xr : XR} {w : Value → Option Addr → Hp → Prop} {Q : V → Hp → Prop} {X : Cx}

/-! ### ends of evaluations -/
theorem end_non (c : Core F m mem H) (h : Res xr PF F m H w Q (.ok .non mem)) : Q .non H := h _ _ _ _ Step.refl c (by simp [PF, VD])
theorem end_int {i : Int} (c : Core F m mem H) (h : Res xr PF F m H w Q (.ok (.int i) mem)) : Q (.int i) H := h _ _ _ _ Step.refl c (by simp [PF, VD])
theorem end_bl {i : Bool} (c : Core F m mem H) (h : Res xr PF F m H w Q (.ok (.bl i) mem)) : Q (.bl i) H := h _ _ _ _ Step.refl c (by simp [PF, VD])
theorem end_str {s : List Nat} (c : Core F m mem H) (h1 : ∀ x ∈ s, x < 1114112) (h2 : s.length ≤ LIM) (h : Res xr PF F m H w Q (.ok (.str s) mem)) : Q (.str ⟨s.toArray⟩) H := h _ _ _ _ Step.refl c (by simp only [PF, VD]; exact ⟨trivial, h1, h2⟩)
theorem end_lst {xs : List D} {vs : List V} (c : Core F m mem H) (hv : VDs F m xs vs) (h : Res xr PF F m H w Q (.ok (.lst xs) mem)) : ∀ p, H p = none → Q (.ref p) (upd H p (.lst vs)) := fun p hp => by
  refine h _ F m _ (Step.newO hp) (c.step_newO hp) ⟨p, vs, rfl, hp, c.freeF hp, fun hm => ?_, upd_same, hv⟩
  obtain ⟨j, hj, e⟩ := List.getElem_of_mem hm
  have hj' : j < mem.length := by rw [← c.len]; exact hj
  obtain ⟨_, k⟩ := c.obj j p _ (by rw [List.getElem?_eq_getElem hj, e]) (List.getElem?_eq_getElem hj')
  exact k.some hp
theorem end_tup {xs : List D} {vs : List V} (c : Core F m mem H) (hv : VDs F m xs vs) (h : Res xr PF F m H w Q (.ok (.tup xs) mem)) : ∀ p, H p = none → Q (.ref p) (upd H p (.tup vs)) := fun p hp => by
  have st : Step F m H (upd F p (.tup vs)) m (upd H p (.tup vs)) := Step.new hp (c.freeF hp)
  refine h _ _ m _ st (c.step_new hp) ?_
  simp only [PF, VD]
  exact ⟨p, vs, rfl, upd_same, hv.step st⟩
/-- a value that stands already -/
theorem end_vd {d : D} {v : V} (c : Core F m mem H) (hv : VD F m d v) (hd : ∀ xs, d ≠ .lst xs) (h : Res xr PF F m H w Q (.ok d mem)) : Q v H := h _ _ _ _ Step.refl c (by
  cases d with
  | lst xs => exact absurd rfl (hd xs)
  | _ => exact hv)
/-- frozen at the end -/
theorem Res.froze {r : R D} (h : Res xr PV F m H w Q r) : Res xr PF F m H w Q r := by
  cases r with
  | ok d mem' =>
    intro b F' m' H' s c p
    cases d with
    | lst xs =>
      obtain ⟨q, vs, e, h0, hF, hm, hH, hv⟩ := p
      have st : Step F m H (upd F' q (.lst vs)) m' H' := by
        refine ⟨fun a o z => ?_, fun a z1 z2 => ?_, s.mm, s.keep, s.dom⟩
        · have := s.sub a o z
          rw [upd_ne (ne_of_none this hF)]; exact this
        · have ne : a ≠ q := by rintro rfl; exact z2 h0
          rw [upd_ne ne]; exact s.fro a z1 z2
      refine h _ _ m' H' st (c.freeze hH hF hm) ?_
      simp only [PV, VD]
      exact ⟨q, vs, e, upd_same, VDs.mono (fun a o z => by rw [upd_ne (ne_of_none z hF)]; exact z) ⟨[], by simp⟩ _ _ hv⟩
    | _ => exact h _ _ _ _ s c p
  | exc x mem' => exact h
  | stuck => exact h

theorem rb_int {i : Int} {v : V} (h : RB F m H (.int i) v) : v = .int i := by simpa [RB, VD] using h
theorem rb_bl {i : Bool} {v : V} (h : RB F m H (.bl i) v) : v = .bl i := by simpa [RB, VD] using h
theorem rb_non {v : V} (h : RB F m H .non v) : v = .non := by simpa [RB, VD] using h
theorem rb_str {s : List Nat} {v : V} (h : RB F m H (.str s) v) : v = .str ⟨s.toArray⟩ ∧ (∀ c ∈ s, c < 1114112) ∧ s.length ≤ LIM := by simpa [RB, VD] using h
theorem rb_lst {xs : List D} {v : V} (h : RB F m H (.lst xs) v) : ∃ a vs, v = .ref a ∧ H a = some (.lst vs) ∧ VDs F m xs vs := h
theorem rb_tup {xs : List D} {v : V} (c : Core F m mem H) (h : RB F m H (.tup xs) v) : ∃ a vs, v = .ref a ∧ H a = some (.tup vs) ∧ VDs F m xs vs ∧ VD F m (.tup xs) v := by
  have h' : VD F m (.tup xs) v := h
  have h2 := h'
  simp only [VD] at h2
  obtain ⟨a, vs, e, h1, h2⟩ := h2
  exact ⟨a, vs, e, c.sub _ _ h1, h2, h'⟩
theorem rb_fro {xs : List D} {v : V} (c : Core F m mem H) (h : RB F m H (.fro xs) v) : ∃ a o vs, v = .ref a ∧ H a = some (.frz o (.lst vs)) ∧ VDs F m xs vs := by
  have h2 : VD F m (.fro xs) v := h
  simp only [VD] at h2
  obtain ⟨a, o, vs, e, h1, h2⟩ := h2
  exact ⟨a, o, vs, e, c.sub _ _ h1, h2⟩

/-- an operator of two values, by what Lt reckons -/
def Ok2 (X : Cx) (op : Value → Value → Sem Value) (f : D → D → Option D) : Prop := ∃ r : R2, OpR X op r ∧
  ∀ {F m mem H xr w Q x y v u}, Core F m mem H → RB F m H x v → RB F m H y u → Res xr PF F m H w Q (R.of (f x y) mem) → r v u H Q

theorem op_powW : OpR X (binaryOp .Pow) (rI (fun i j => 0 ≤ j ∧ ((i.natAbs.log2 + 1 : Nat) : Int) * j ≤ 2 ^ 27) fun i j => .int (i ^ j.toNat)) := opI fun i j _ _ _ _ _ hc q => by
  refine pow_int hc.1 (Int.le_trans (Int.mul_le_mul_of_nonneg_right ?_ hc.1) hc.2) q
  unfold Builtin.Int.intBits
  split <;> omega

theorem str_cat {a b : List Nat} : ((⟨a.toArray⟩ : Str) ++ (⟨b.toArray⟩ : Str)) = ⟨(a ++ b).toArray⟩ := by
  show Str.append _ _ = _
  simp [Str.append]

theorem ok_add : Ok2 X (binaryOp .Add) (binD .add) := by
  refine ⟨_, ((op_add (X := X)).or op_add_str).or (op_cat.or op_catA), ?_⟩
  intro F m mem H xr w Q x y v u c hx hy h
  cases x <;> cases y <;> first | exact h.elim | skip
  · have e1 := rb_int hx
    have e2 := rb_int hy
    subst e1 e2
    exact .inl (.inl ⟨_, _, rfl, rfl, end_int c h⟩)
  · rename_i a b
    obtain ⟨e1, h1, l1⟩ := rb_str hx
    obtain ⟨e2, h2, l2⟩ := rb_str hy
    subst e1 e2
    by_cases hl : a.length + b.length ≤ LIM
    · have e : binD .add (.str a) (.str b) = some (.str (a ++ b)) := if_pos hl
      rw [e] at h
      refine .inl (.inr ⟨_, _, rfl, rfl, ?_, ?_⟩)
      · rw [LIM_eq]; simpa [Str.length] using hl
      · rw [str_cat]
        refine end_str c (fun x hx => ?_) (by rw [List.length_append]; exact hl) h
        rcases List.mem_append.mp hx with q | q
        · exact h1 x q
        · exact h2 x q
    · have e : binD .add (.str a) (.str b) = none := if_neg hl
      rw [e] at h
      exact h.elim
  · rename_i a b
    obtain ⟨p, vs, e1, h1, r1⟩ := rb_tup c hx
    obtain ⟨q, us, e2, h2, r2⟩ := rb_tup c hy
    by_cases hl : a.length + b.length ≤ LIM
    · have e : binD .add (.tup a) (.tup b) = some (.tup (a ++ b)) := if_pos hl
      rw [e] at h
      refine .inr (.inr ⟨p, q, vs, us, e1, e2, SqT.of h1, SqT.of h2, ?_, ?_, ?_, ?_⟩)
      · rw [LIM_eq, ← r1.1.length, ← r2.1.length]; exact hl
      · intro z
        subst z
        have : a = [] := List.eq_nil_of_length_eq_zero (by rw [r1.1.length]; rfl)
        subst this
        rw [← e2]
        exact end_vd c r2.2 (fun _ z => by cases z) h
      · intro _ z
        subst z
        have : b = [] := List.eq_nil_of_length_eq_zero (by rw [r2.1.length]; rfl)
        subst this
        rw [← e1]
        rw [List.append_nil] at h
        exact end_vd c r1.2 (fun _ z => by cases z) h
      · intro _ _
        exact end_tup c (r1.1.append r2.1) h
    · have e : binD .add (.tup a) (.tup b) = none := if_neg hl
      rw [e] at h
      exact h.elim
  · rename_i a b
    obtain ⟨p, vs, e1, h1, r1⟩ := rb_lst hx
    obtain ⟨q, us, e2, h2, r2⟩ := rb_lst hy
    by_cases hl : a.length + b.length ≤ LIM
    · have e : binD .add (.lst a) (.lst b) = some (.lst (a ++ b)) := if_pos hl
      rw [e] at h
      refine .inr (.inl ⟨p, q, vs, us, e1, e2, h1, h2, ?_, end_lst c (r1.append r2) h⟩)
      rw [LIM_eq, ← r1.length, ← r2.length]; exact hl
    · have e : binD .add (.lst a) (.lst b) = none := if_neg hl
      rw [e] at h
      exact h.elim
theorem ok_sub : Ok2 X (binaryOp .Sub) (binD .sub) := by
  refine ⟨_, op_sub, ?_⟩
  intro F m mem H xr w Q x y v u c hx hy h
  cases x <;> cases y <;> first | exact h.elim | skip
  have e1 := rb_int hx
  have e2 := rb_int hy
  subst e1 e2
  exact ⟨_, _, rfl, rfl, end_int c h⟩
theorem ok_mul : Ok2 X (binaryOp .Mult) (binD .mul) := by
  refine ⟨_, op_mulW, ?_⟩
  intro F m mem H xr w Q x y v u c hx hy h
  cases x <;> cases y <;> first | exact h.elim | skip
  rename_i i j
  have e1 := rb_int hx
  have e2 := rb_int hy
  subst e1 e2
  by_cases hc : i.natAbs.log2 + j.natAbs.log2 < 1000000
  · have e : binD .mul (.int i) (.int j) = some (.int (i * j)) := if_pos hc
    rw [e] at h
    exact ⟨_, _, rfl, rfl, hc, end_int c h⟩
  · have e : binD .mul (.int i) (.int j) = none := if_neg hc
    rw [e] at h
    exact h.elim
theorem ok_fdiv : Ok2 X (binaryOp .FloorDiv) (binD .fdiv) := by
  refine ⟨_, op_fdivW, ?_⟩
  intro F m mem H xr w Q x y v u c hx hy h
  cases x <;> cases y <;> first | exact h.elim | skip
  rename_i i j
  have e1 := rb_int hx
  have e2 := rb_int hy
  subst e1 e2
  by_cases hc : 0 < j ∧ j.natAbs.log2 < 9000
  · have e : binD .fdiv (.int i) (.int j) = some (.int (i / j)) := if_pos hc
    rw [e] at h
    exact ⟨_, _, rfl, rfl, hc, end_int c h⟩
  · have e : binD .fdiv (.int i) (.int j) = none := if_neg hc
    rw [e] at h
    exact h.elim
theorem ok_mod : Ok2 X (binaryOp .Mod) (binD .mod) := by
  refine ⟨_, op_mod, ?_⟩
  intro F m mem H xr w Q x y v u c hx hy h
  cases x <;> cases y <;> first | exact h.elim | skip
  rename_i i j
  have e1 := rb_int hx
  have e2 := rb_int hy
  subst e1 e2
  by_cases hc : 0 < j
  · have e : binD .mod (.int i) (.int j) = some (.int (i % j)) := if_pos hc
    rw [e] at h
    exact ⟨_, _, rfl, rfl, hc, end_int c h⟩
  · have e : binD .mod (.int i) (.int j) = none := if_neg hc
    rw [e] at h
    exact h.elim
theorem ok_pow : Ok2 X (binaryOp .Pow) (binD .pow) := by
  refine ⟨_, op_powW, ?_⟩
  intro F m mem H xr w Q x y v u c hx hy h
  cases x <;> cases y <;> first | exact h.elim | skip
  rename_i i j
  have e1 := rb_int hx
  have e2 := rb_int hy
  subst e1 e2
  by_cases hc : 0 ≤ j ∧ ((i.natAbs.log2 + 1 : Nat) : Int) * j ≤ 2 ^ 27
  · have e : binD .pow (.int i) (.int j) = some (.int (i ^ j.toNat)) := if_pos hc
    rw [e] at h
    exact ⟨_, _, rfl, rfl, hc, end_int c h⟩
  · have e : binD .pow (.int i) (.int j) = none := if_neg hc
    rw [e] at h
    exact h.elim

/-! ### == of data -/
mutual
def toP : D → PyData
  | .bl b => .bool b
  | .int i => .int i
  | .str s => .str ⟨s.toArray⟩
  | .tup xs => .tuple (toPs xs)
  | .lst xs => .list (toPs xs)
  | _ => .none
def toPs : List D → List PyData
  | [] => []
  | x :: xs => toP x :: toPs xs
end
mutual
theorem dp_of {K : PySem.W.Frag} (hs : ∀ a o, F a = some o → H a = some o) : ∀ (d : D) (v : V) (n : Nat), dep d = some n → VD F m d v → Dp K H v (toP d) ∧ (toP d).canLay0 = true ∧ (toP d).depth = n
  | .non, v, n, hn, h => by
    simp only [VD] at h; simp only [dep, Option.some.injEq] at hn; subst h hn
    exact ⟨Dp.non, by simp [toP, PyData.canLay0], by simp [toP, PyData.depth]⟩
  | .bl _, v, n, hn, h => by
    simp only [VD] at h; simp only [dep, Option.some.injEq] at hn; subst h hn
    exact ⟨Dp.bl _, by simp [toP, PyData.canLay0], by simp [toP, PyData.depth]⟩
  | .int _, v, n, hn, h => by
    simp only [VD] at h; simp only [dep, Option.some.injEq] at hn; subst h hn
    exact ⟨Dp.int _, by simp [toP, PyData.canLay0], by simp [toP, PyData.depth]⟩
  | .str s, v, n, hn, h => by
    simp only [VD] at h; simp only [dep, Option.some.injEq] at hn
    obtain ⟨h, hc, _⟩ := h
    subst h hn
    refine ⟨Dp.str _, ?_, by simp [toP, PyData.depth]⟩
    simp only [toP, PyData.canLay0, PyData.strOk, List.all_toArray, List.all_eq_true, decide_eq_true_eq]
    exact hc
  | .tup xs, v, n, hn, h => by
    simp only [VD] at h; simp only [dep, Option.map_eq_some_iff] at hn
    obtain ⟨a, vs, rfl, h1, h2⟩ := h
    obtain ⟨k, hk, rfl⟩ := hn
    obtain ⟨p1, p2, p3⟩ := dps_of (K := K) hs xs vs k hk h2
    simp only [toP]
    exact ⟨Dp.tup (SqT.of (hs _ _ h1)) p1, by simpa [PyData.canLay0] using p2, by simp [PyData.depth, p3]⟩
  | .lst xs, v, n, hn, h => by
    simp only [VD] at h; simp only [dep, Option.map_eq_some_iff] at hn
    obtain ⟨a, vs, rfl, h1, h2⟩ := h
    obtain ⟨k, hk, rfl⟩ := hn
    obtain ⟨p1, p2, p3⟩ := dps_of (K := K) hs xs vs k hk h2
    simp only [toP]
    exact ⟨Dp.lst (SqL.of (hs _ _ h1)) p1, by simpa [PyData.canLay0] using p2, by simp [PyData.depth, p3]⟩
  | .fro _, v, n, hn, h => by simp [dep] at hn
  | .dic _, v, n, hn, h => by simp [dep] at hn
  | .ref _, v, n, hn, h => by simp [dep] at hn
  | .itr _, v, n, hn, h => by simp [dep] at hn
theorem dps_of {K : PySem.W.Frag} (hs : ∀ a o, F a = some o → H a = some o) : ∀ (d : List D) (v : List V) (n : Nat), depA d = some n → VDs F m d v → DpAll K H v (toPs d) ∧ PyData.canLayAll0 (toPs d) = true ∧ PyData.depthAll (toPs d) = n
  | [], v, n, hn, h => by
    simp only [VDs] at h; simp only [depA, Option.some.injEq] at hn; subst h hn
    exact ⟨DpAll.nil, by simp [toPs, PyData.canLayAll0], by simp [toPs, PyData.depthAll]⟩
  | x :: xs, v, n, hn, h => by
    simp only [VDs] at h
    obtain ⟨u, us, rfl, h1, h2⟩ := h
    simp only [depA] at hn
    cases e1 : dep x with
    | none => rw [e1] at hn; cases hn
    | some a =>
      cases e2 : depA xs with
      | none => rw [e1, e2] at hn; cases hn
      | some b =>
        rw [e1, e2] at hn
        simp only [Option.some.injEq] at hn
        obtain ⟨p1, p2, p3⟩ := dp_of (K := K) hs x u a e1 h1
        obtain ⟨q1, q2, q3⟩ := dps_of (K := K) hs xs us b e2 h2
        simp only [toPs]
        exact ⟨DpAll.cons p1 q1, by simp [PyData.canLayAll0, p2, q2], by simp [PyData.depthAll, p3, q3, hn]⟩
end
theorem rb_dp {K : PySem.W.Frag} {d : D} {v : V} {n : Nat} (c : Core F m mem H) (hn : dep d = some n) (h : RB F m H d v) : Dp K H v (toP d) ∧ (toP d).canLay0 = true ∧ (toP d).depth = n := by
  cases d with
  | lst xs =>
    obtain ⟨a, vs, rfl, h1, h2⟩ := h
    simp only [dep, Option.map_eq_some_iff] at hn
    obtain ⟨k, hk, rfl⟩ := hn
    obtain ⟨p1, p2, p3⟩ := dps_of (K := K) c.sub xs vs k hk h2
    simp only [toP]
    exact ⟨Dp.lst (SqL.of h1) p1, by simpa [PyData.canLay0] using p2, by simp [PyData.depth, p3]⟩
  | ref _ => exact h.elim
  | _ => exact dp_of (m := m) c.sub _ v n hn h
theorem eq_str {s t : List Nat} : ((⟨s.toArray⟩ : Str) == ⟨t.toArray⟩) = (s == t) := by
  rw [Bool.eq_iff_iff]
  simp
mutual
theorem eqv_toP : ∀ (x y : D) (a b : Nat), dep x = some a → dep y = some b → PyData.eqv (toP x) (toP y) = eqD x y := by
  intro x
  cases x with
  | tup xs =>
    intro y a b hx hy
    cases y with
    | tup ys =>
      simp only [toP, PyData.eqv, eqD]
      simp only [dep, Option.map_eq_some_iff] at hx hy
      obtain ⟨k, hk, _⟩ := hx
      obtain ⟨l, hl, _⟩ := hy
      exact eqvs_toP xs ys k l hk hl
    | _ => first | (simp [toP, PyData.eqv, eqD]; done) | (simp [dep] at hy)
  | lst xs =>
    intro y a b hx hy
    cases y with
    | lst ys =>
      simp only [toP, PyData.eqv, eqD]
      simp only [dep, Option.map_eq_some_iff] at hx hy
      obtain ⟨k, hk, _⟩ := hx
      obtain ⟨l, hl, _⟩ := hy
      exact eqvs_toP xs ys k l hk hl
    | _ => first | (simp [toP, PyData.eqv, eqD]; done) | (simp [dep] at hy)
  | str s =>
    intro y a b hx hy
    cases y with
    | str t => simp only [toP, PyData.eqv, eqD]; exact eq_str
    | _ => first | (simp [toP, PyData.eqv, eqD]; done) | (simp [dep] at hy)
  | _ =>
    intro y a b hx hy
    first
      | (simp [dep] at hx; done)
      | (cases y <;> first | (simp [toP, PyData.eqv, eqD]; done) | (simp [dep] at hy; done))
theorem eqvs_toP : ∀ (x y : List D) (a b : Nat), depA x = some a → depA y = some b → PyData.eqvAll (toPs x) (toPs y) = eqDs x y := by
  intro x
  cases x with
  | nil => intro y a b _ _; cases y <;> simp [toPs, PyData.eqvAll, eqDs]
  | cons x xs =>
    intro y a b hx hy
    cases y with
    | nil => simp [toPs, PyData.eqvAll, eqDs]
    | cons y ys =>
      simp only [depA] at hx hy
      simp only [toPs, PyData.eqvAll, eqDs]
      cases e1 : dep x with
      | none => rw [e1] at hx; cases hx
      | some p =>
        cases e2 : depA xs with
        | none => rw [e1, e2] at hx; cases hx
        | some q =>
          cases f1 : dep y with
          | none => rw [f1] at hy; cases hy
          | some r =>
            cases f2 : depA ys with
            | none => rw [f1, f2] at hy; cases hy
            | some t => rw [eqv_toP x y p r e1 f1, eqvs_toP xs ys q t e2 f2]
end
end Lt

set_option Elab.async false
set_option linter.all false
set_option maxRecDepth 100000
set_option maxHeartbeats 4000000
/-! Lt4: comparisons, subscripts, built-ins. -/
namespace Lt
open PySem PySem.Spec PyProof.Rows L2
variable {F F' F1 F2 : Hp} {m m' m1 m2 : List Addr} {H H' H1 H2 B : Hp} {mem mem' mem1 mem2 : Mem} {xr : XR} {w : Value → Option Addr → Hp → Prop} {Q : V → Hp → Prop} {X : Cx}

/-! ### a text in a text -/
theorem pre_eq : ∀ (p s : List Nat), TL.pre p s = p.isPrefixOf s
  | [], _ => by simp [TL.pre]
  | _ :: _, [] => by simp [TL.pre]
  | a :: p, b :: s => by
    have ih := pre_eq p s
    have hc : (b == a) = (a == b) := by rw [Bool.eq_iff_iff, beq_iff_eq, beq_iff_eq]; exact eq_comm
    simp only [TL.pre] at ih ⊢
    simp [List.isPrefixOf, ih]
    rw [hc]
theorem findFrom_spec (p : List Nat) (hp : p ≠ []) : ∀ (s : List Nat) (i : Nat),
    (findFrom p s i = none ∧ ∀ k, (p.isPrefixOf (s.drop k)) = false) ∨ ∃ k, findFrom p s i = some (i + k) ∧ p.isPrefixOf (s.drop k) = true ∧ ∀ j, j < k → p.isPrefixOf (s.drop j) = false
  | [], i => by
    cases p with
    | nil => exact absurd rfl hp
    | cons a p => exact .inl ⟨by simp [findFrom], fun k => by simp [List.isPrefixOf]⟩
  | c :: s, i => by
    by_cases h : p.isPrefixOf (c :: s) = true
    · exact .inr ⟨0, by simp [findFrom, h], h, fun j hj => by omega⟩
    · have h' : p.isPrefixOf (c :: s) = false := Bool.eq_false_iff.mpr h
      rcases findFrom_spec p hp s (i + 1) with ⟨e, hn⟩ | ⟨k, e, h1, h2⟩
      · refine .inl ⟨by simp [findFrom, h', e], fun k => ?_⟩
        cases k with
        | zero => exact h'
        | succ k => exact hn k
      · refine .inr ⟨k + 1, by simp [findFrom, h', e]; omega, h1, fun j hj => ?_⟩
        cases j with
        | zero => exact h'
        | succ j => exact h2 j (by omega)
theorem occ_find (p s : List Nat) (hp : p ≠ []) (lo : Nat) :
    (Builtin.Str.occurrences ⟨s.toArray⟩ ⟨p.toArray⟩ lo (⟨s.toArray⟩ : Str).length 1).head? = findFrom p (s.drop lo) lo := by
  have hy : TL.tl ⟨p.toArray⟩ ≠ [] := by simpa [TL.tl] using hp
  have key : ∀ i, StrLaws.At ⟨s.toArray⟩ ⟨p.toArray⟩ (⟨s.toArray⟩ : Str).length i ↔ p.isPrefixOf (s.drop i) = true := fun i => by
    rw [TL.at_iff hy i, pre_eq]
  rcases StrLaws.occ_head_from ⟨s.toArray⟩ ⟨p.toArray⟩ lo 1 (Nat.le_refl 1) with ⟨e, hn⟩ | ⟨i, r, e, h1, h2, h3⟩
  · rw [e]
    rcases findFrom_spec p hp (s.drop lo) lo with ⟨e2, _⟩ | ⟨k, e2, h4, _⟩
    · rw [e2]; rfl
    · exfalso
      refine hn (lo + k) (by omega) ((key _).mpr ?_)
      rw [List.drop_drop] at h4
      exact h4
  · rw [e]
    rcases findFrom_spec p hp (s.drop lo) lo with ⟨e2, h4⟩ | ⟨k, e2, h4, h5⟩
    · exfalso
      have z := h4 (i - lo)
      rw [List.drop_drop, show lo + (i - lo) = i by omega] at z
      rw [(key i).mp h2] at z
      cases z
    · rw [e2]
      have z : i = lo + k := by
        rw [List.drop_drop] at h4
        rcases Nat.lt_trichotomy i (lo + k) with q | q | q
        · exfalso
          have y := h5 (i - lo) (by omega)
          rw [List.drop_drop, show lo + (i - lo) = i by omega, (key i).mp h2] at y
          cases y
        · exact q
        · exact absurd ((key _).mpr h4) (h3 (lo + k) (by omega) q)
      rw [z]
      rfl
theorem occ_isSub (p s : List Nat) (hp : p ≠ []) : (!(Builtin.Str.occurrences ⟨s.toArray⟩ ⟨p.toArray⟩ 0 (⟨s.toArray⟩ : Str).length 1).isEmpty) = isSub p s := by
  have h := occ_find p s hp 0
  rw [List.drop_zero] at h
  unfold isSub
  rw [← h]
  cases Builtin.Str.occurrences ⟨s.toArray⟩ ⟨p.toArray⟩ 0 (⟨s.toArray⟩ : Str).length 1 <;> rfl

/-! ### comparisons -/
theorem units_of (hr : X.A.units + 64 < cLine) (x y : PyData) (h : min x.depth y.depth ≤ 64) : X.A.units + min x.depth y.depth < cLine := by
  omega
def rEqM (X : Cx) : R2 := fun x y H Q => ∃ d e, Dp X.K H x d ∧ Dp X.K H y e ∧ d.canLay0 = true ∧ e.canLay0 = true ∧ min d.depth e.depth ≤ 64 ∧ Q (.bl (PyData.eqv d e)) H
def rNeM (X : Cx) : R2 := fun x y H Q => ∃ d e, Dp X.K H x d ∧ Dp X.K H y e ∧ d.canLay0 = true ∧ e.canLay0 = true ∧ min d.depth e.depth ≤ 64 ∧ Q (.bl (!PyData.eqv d e)) H
theorem op_eqM (hr : X.A.units + 64 < cLine) : OpR X (compareOp .Eq) (rEqM X) := by
  intro pins s σ H x y v u Q I rx ry h
  obtain ⟨d, e, hd, he, sd, se, hm, q⟩ := h
  obtain ⟨as, r1⟩ := Dp.reads I d x v hd rx
  obtain ⟨bs, r2⟩ := Dp.reads I e y u he ry
  exact SeqAt.compareEq_reads r1 r2 sd se (units_of hr d e hm) ⟨.bl _, H, I, rfl, q⟩
theorem op_neM (hr : X.A.units + 64 < cLine) : OpR X (compareOp .NotEq) (rNeM X) := by
  intro pins s σ H x y v u Q I rx ry h
  obtain ⟨d, e, hd, he, sd, se, hm, q⟩ := h
  obtain ⟨as, r1⟩ := Dp.reads I d x v hd rx
  obtain ⟨bs, r2⟩ := Dp.reads I e y u he ry
  exact SeqAt.compareNe_reads r1 r2 sd se (units_of hr d e hm) ⟨.bl _, H, I, rfl, q⟩
theorem eqOk_dep {x y : D} (h : eqOk x y = true) : ∃ a b, dep x = some a ∧ dep y = some b ∧ min a b ≤ 64 := by
  unfold eqOk at h
  cases e1 : dep x with
  | none => rw [e1] at h; cases h
  | some a =>
    cases e2 : dep y with
    | none => rw [e1, e2] at h; cases h
    | some b => rw [e1, e2] at h; exact ⟨a, b, rfl, rfl, of_decide_eq_true h⟩
abbrev cmpB (op : Cop) (x y : D) : Option D := (cmpD op x y).map .bl
theorem ok_eq (hr : X.A.units + 64 < cLine) : Ok2 X (compareOp .Eq) (cmpB .eq) := by
  refine ⟨_, op_eqM hr, ?_⟩
  intro F m mem H xr w Q x y v u c hx hy h
  by_cases hk : eqOk x y = true
  · have e : cmpB .eq x y = some (.bl (eqD x y)) := by show Option.map _ (if _ then _ else _) = _; rw [if_pos hk]; rfl
    rw [e] at h
    obtain ⟨a, b, ha, hb, hm⟩ := eqOk_dep hk
    obtain ⟨p1, p2, p3⟩ := rb_dp (K := X.K) c ha hx
    obtain ⟨q1, q2, q3⟩ := rb_dp (K := X.K) c hb hy
    refine ⟨_, _, p1, q1, p2, q2, by rw [p3, q3]; exact hm, ?_⟩
    rw [eqv_toP x y a b ha hb]
    exact end_bl c h
  · have e : cmpB .eq x y = none := by show Option.map _ (if _ then _ else _) = _; rw [if_neg hk]; rfl
    rw [e] at h
    exact h.elim
theorem ok_ne (hr : X.A.units + 64 < cLine) : Ok2 X (compareOp .NotEq) (cmpB .ne) := by
  refine ⟨_, op_neM hr, ?_⟩
  intro F m mem H xr w Q x y v u c hx hy h
  by_cases hk : eqOk x y = true
  · have e : cmpB .ne x y = some (.bl (!eqD x y)) := by show Option.map _ (if _ then _ else _) = _; rw [if_pos hk]; rfl
    rw [e] at h
    obtain ⟨a, b, ha, hb, hm⟩ := eqOk_dep hk
    obtain ⟨p1, p2, p3⟩ := rb_dp (K := X.K) c ha hx
    obtain ⟨q1, q2, q3⟩ := rb_dp (K := X.K) c hb hy
    refine ⟨_, _, p1, q1, p2, q2, by rw [p3, q3]; exact hm, ?_⟩
    rw [eqv_toP x y a b ha hb]
    exact end_bl c h
  · have e : cmpB .ne x y = none := by show Option.map _ (if _ then _ else _) = _; rw [if_neg hk]; rfl
    rw [e] at h
    exact h.elim
theorem ok_lt : Ok2 X (compareOp .Lt) (cmpB .lt) := by
  refine ⟨_, (op_lt (X := X)).or op_lt_str, ?_⟩
  intro F m mem H xr w Q x y v u c hx hy h
  cases x <;> cases y <;> first | exact h.elim | skip
  · have e1 := rb_int hx
    have e2 := rb_int hy
    subst e1 e2
    exact .inl ⟨_, _, rfl, rfl, end_bl c h⟩
  · obtain ⟨e1, _⟩ := rb_str hx
    obtain ⟨e2, _⟩ := rb_str hy
    subst e1 e2
    exact .inr ⟨_, _, rfl, rfl, end_bl c h⟩
theorem ok_le : Ok2 X (compareOp .LtE) (cmpB .le) := by
  refine ⟨_, (op_le (X := X)).or op_le_str, ?_⟩
  intro F m mem H xr w Q x y v u c hx hy h
  cases x <;> cases y <;> first | exact h.elim | skip
  · have e1 := rb_int hx
    have e2 := rb_int hy
    subst e1 e2
    exact .inl ⟨_, _, rfl, rfl, end_bl c h⟩
  · rename_i s t
    obtain ⟨e1, _⟩ := rb_str hx
    obtain ⟨e2, _⟩ := rb_str hy
    subst e1 e2
    refine .inr ⟨_, _, rfl, rfl, ?_⟩
    have e : (!decide (t < s)) = decide (s ≤ t) := by
      rw [← decide_not]
      exact decide_eq_decide.mpr Iff.rfl
    show Q (.bl (!decide (t < s))) H
    rw [e]
    exact end_bl c h
theorem ok_gt : Ok2 X (compareOp .Gt) (cmpB .gt) := by
  refine ⟨_, op_gt (X := X), ?_⟩
  intro F m mem H xr w Q x y v u c hx hy h
  cases x <;> cases y <;> first | exact h.elim | skip
  have e1 := rb_int hx
  have e2 := rb_int hy
  subst e1 e2
  exact ⟨_, _, rfl, rfl, end_bl c h⟩
theorem ok_ge : Ok2 X (compareOp .GtE) (cmpB .ge) := by
  refine ⟨_, op_ge (X := X), ?_⟩
  intro F m mem H xr w Q x y v u c hx hy h
  cases x <;> cases y <;> first | exact h.elim | skip
  have e1 := rb_int hx
  have e2 := rb_int hy
  subst e1 e2
  exact ⟨_, _, rfl, rfl, end_bl c h⟩
theorem rb_ne_non {d : D} {v : V} (c : Core F m mem H) (h : RB F m H d v) (hd : d ≠ .non) : v ≠ .non := by
  rintro rfl
  cases d with
  | non => exact hd rfl
  | lst xs => obtain ⟨a, vs, e, _⟩ := h; cases e
  | _ => revert h; simp [RB, VD]
theorem ok_is : Ok2 X (compareOp .Is) (cmpB .is) := by
  refine ⟨_, op_isN (X := X), ?_⟩
  intro F m mem H xr w Q x y v u c hx hy h
  cases y <;> first | (cases x <;> exact h.elim) | skip
  have e2 := rb_non hy
  subst e2
  refine ⟨rfl, ?_⟩
  cases x <;> first | exact h.elim | skip
  · have e1 := rb_non hx
    subst e1
    exact end_bl c h
  all_goals (rw [decide_eq_false (rb_ne_non c hx (by simp))]; exact end_bl c h)
theorem ok_isnot : Ok2 X (compareOp .IsNot) (cmpB .isnot) := by
  refine ⟨_, op_notN (X := X), ?_⟩
  intro F m mem H xr w Q x y v u c hx hy h
  cases y <;> first | (cases x <;> exact h.elim) | skip
  have e2 := rb_non hy
  subst e2
  refine ⟨rfl, ?_⟩
  cases x <;> first | exact h.elim | skip
  · have e1 := rb_non hx
    subst e1
    exact end_bl c h
  all_goals (rw [decide_eq_false (rb_ne_non c hx (by simp))]; exact end_bl c h)
/-! in -/
theorem vd_flat {d : D} {v : V} (h : VD F m d v) (f : flatD d = true) : flatV v = true := by
  cases d <;> first | exact Bool.noConfusion f | skip
  all_goals (simp only [VD] at h)
  · subst h; rfl
  · subst h; rfl
  · subst h; rfl
  · obtain ⟨h, _⟩ := h; subst h; rfl
theorem vds_flat : ∀ {d : List D} {v : List V}, VDs F m d v → d.all flatD = true → v.all flatV = true
  | [], v, h, _ => by simp [VDs] at h; subst h; rfl
  | x :: xs, v, h, f => by
    simp only [VDs] at h
    obtain ⟨u, us, rfl, h1, h2⟩ := h
    simp only [List.all_cons, Bool.and_eq_true] at f ⊢
    exact ⟨vd_flat h1 f.1, vds_flat h2 f.2⟩
theorem vd_eqV {x y : D} {v u : V} (h1 : VD F m x v) (h2 : VD F m y u) (f1 : flatD x = true) (f2 : flatD y = true) : eqV v u = eqD x y := by
  cases x <;> first | exact Bool.noConfusion f1 | skip
  all_goals (cases y <;> first | exact Bool.noConfusion f2 | skip)
  all_goals (simp only [VD] at h1 h2)
  case str.str s t =>
    obtain ⟨h1, _⟩ := h1
    obtain ⟨h2, _⟩ := h2
    subst h1 h2
    simp only [eqV, eqD]
    first | exact eq_str | (rw [Bool.eq_iff_iff]; simp)
  all_goals first
    | (subst h1 h2; simp [eqV, eqD]; done)
    | (obtain ⟨h1, _⟩ := h1; subst h1 h2; simp [eqV, eqD]; done)
    | (obtain ⟨h2, _⟩ := h2; subst h1 h2; simp [eqV, eqD]; done)
theorem vds_inV {x : D} {v : V} (h : VD F m x v) (f : flatD x = true) : ∀ {d : List D} {us : List V}, VDs F m d us → d.all flatD = true → inV v us = d.any fun y => eqD y x
  | [], us, h2, _ => by simp [VDs] at h2; subst h2; rfl
  | y :: ys, us, h2, f2 => by
    simp only [VDs] at h2
    obtain ⟨u, us, rfl, h3, h4⟩ := h2
    simp only [List.all_cons, Bool.and_eq_true] at f2
    have ih := vds_inV h f h4 f2.2
    unfold inV at ih ⊢
    rw [List.any_cons, List.any_cons, ih, vd_eqV h3 h f2.1 f]
theorem rb_flat {d : D} {v : V} (f : flatD d = true) (h : RB F m H d v) : VD F m d v := by
  cases d <;> first | exact Bool.noConfusion f | exact h
theorem ok_in0 (neg : Bool) (op : CmpOp) (ho : OpR X (compareOp op) (rIn X.K neg))
    (hs : OpR X (compareOp op) (fun x y H Q => ∃ i j, x = .str i ∧ y = .str j ∧ Q (.bl (if neg then !(!(Builtin.Str.occurrences j i 0 j.length 1).isEmpty) else (!(Builtin.Str.occurrences j i 0 j.length 1).isEmpty))) H)) :
    Ok2 X (compareOp op) (fun x y => (inD x y).map fun b => .bl (if neg then !b else b)) := by
  refine ⟨_, ho.or hs, ?_⟩
  intro F m mem H xr w Q x y v u c hx hy h
  have seq : ∀ (ys : List D) (a : Addr) (us : List V), u = .ref a → (SqL X.K H a us ∨ SqT X.K H a us) → VDs F m ys us → Res xr PF F m H w Q (R.of ((inL x ys).map fun b => .bl (if neg then !b else b)) mem) → rIn X.K neg v u H Q := by
    intro ys a us e hq hv h
    by_cases hf : (flatD x && ys.all flatD) = true
    · have e1 : inL x ys = some (ys.any fun y => eqD y x) := if_pos hf
      rw [e1] at h
      rw [Bool.and_eq_true] at hf
      have hx' := rb_flat hf.1 hx
      refine ⟨a, us, e, hq, vd_flat hx' hf.1, vds_flat hv hf.2, ?_⟩
      rw [vds_inV hx' hf.1 hv hf.2]
      exact end_bl c h
    · have e1 : inL x ys = none := if_neg hf
      rw [e1] at h
      exact h.elim
  cases y with
  | lst ys =>
    obtain ⟨a, us, e, h1, h2⟩ := rb_lst hy
    have h' : Res xr PF F m H w Q (R.of ((inL x ys).map fun b => .bl (if neg then !b else b)) mem) := by cases x <;> exact h
    exact .inl (seq ys a us e (.inl (SqL.of h1)) h2 h')
  | tup ys =>
    obtain ⟨a, us, e, h1, h2, _⟩ := rb_tup c hy
    have h' : Res xr PF F m H w Q (R.of ((inL x ys).map fun b => .bl (if neg then !b else b)) mem) := by cases x <;> exact h
    exact .inl (seq ys a us e (.inr (SqT.of h1)) h2 h')
  | str t =>
    cases x <;> first | exact h.elim | skip
    rename_i s
    obtain ⟨e1, _⟩ := rb_str hx
    obtain ⟨e2, _⟩ := rb_str hy
    subst e1 e2
    cases s with
    | nil => exact h.elim
    | cons a s =>
      refine .inr ⟨_, _, rfl, rfl, ?_⟩
      rw [occ_isSub (a :: s) t (by simp)]
      exact end_bl c h
  | _ => cases x <;> exact h.elim
theorem ok_in : Ok2 X (compareOp .In) (cmpB .isin) := by
  have e : (cmpB .isin) = fun x y => (inD x y).map fun b => D.bl (if false then !b else b) := by
    funext x y
    show (inD x y).map D.bl = _
    cases inD x y <;> simp
  rw [e]
  exact ok_in0 false .In op_in_seq (by simpa using op_in_str)
theorem ok_notin : Ok2 X (compareOp .NotIn) (cmpB .notin) := by
  have e : (cmpB .notin) = fun x y => (inD x y).map fun b => D.bl (if true then !b else b) := by
    funext x y
    show ((inD x y).map (!·)).map D.bl = _
    cases inD x y <;> simp
  rw [e]
  exact ok_in0 true .NotIn op_notIn_seq (by simpa using L2.op_notIn_str)
end Lt

set_option Elab.async false
set_option linter.all false
set_option maxRecDepth 100000
set_option maxHeartbeats 4000000
/-! Lt5: subscripts, slices, built-ins, methods. -/
namespace Lt
open PySem PySem.Spec PyProof.Rows L2
variable {F F' F1 F2 : Hp} {m m' m1 m2 : List Addr} {H H' H1 H2 B : Hp} {mem mem' mem1 mem2 : Mem} {xr : XR} {w : Value → Option Addr → Hp → Prop} {Q : V → Hp → Prop} {X : Cx}

theorem end_pv {d : D} {v : V} (c : Core F m mem H) (hv : VD F m d v) (h : Res xr PV F m H w Q (.ok d mem)) : Q v H := h _ _ _ _ Step.refl c hv
theorem atD_eq (xs : List D) (i : Int) : atD xs i = atI xs i := rfl
theorem vds_at {xs : List D} {vs : List V} {i : Int} {d : D} (hv : VDs F m xs vs) (h : atD xs i = some d) : ∃ v, atI vs i = some v ∧ VD F m d v := by
  unfold atD at h
  cases e : pyIx xs.length i with
  | none => rw [e] at h; cases h
  | some j =>
    rw [e] at h
    obtain ⟨v, h1, h2⟩ := hv.get (i := j) h
    refine ⟨v, ?_, h2⟩
    unfold atI
    rw [show ixN vs.length i = pyIx xs.length i by rw [hv.length]; rfl, e]
    exact h1
/-- a subscript, by what Lt reckons -/
def OkIx (X : Cx) (f : D → D → Option D) : Prop := ∃ r : R2, IxR X r ∧
  ∀ {F m mem H xr w Q x y v u}, Core F m mem H → RB F m H x v → VD F m y u → Res xr PV F m H w Q (R.of (f x y) mem) → r v u H Q
theorem ok_idx : OkIx X idxD := by
  refine ⟨_, (ix_list (X := X)).or (ix_tup.or ix_str), ?_⟩
  intro F m mem H xr w Q x y v u c hx hy h
  cases x <;> first | (cases y <;> exact h.elim) | skip
  all_goals (cases y <;> first | exact h.elim | skip)
  · -- text
    rename_i s i
    obtain ⟨e1, h1, h2⟩ := rb_str hx
    simp only [VD] at hy
    subst e1 hy
    cases e : (pyIx s.length i).bind fun j => (s[j]?).map fun c => D.str [c] with
    | none => rw [show idxD (.str s) (.int i) = _ from e] at h; exact h.elim
    | some d =>
      rw [show idxD (.str s) (.int i) = _ from e] at h
      rw [Option.bind_eq_some_iff] at e
      obtain ⟨j, ej, e⟩ := e
      rw [Option.map_eq_some_iff] at e
      obtain ⟨k, ek, e⟩ := e
      subst e
      refine .inr (.inr ⟨_, i, k, rfl, rfl, ?_, ?_, ?_⟩)
      · rw [LIM_eq]; simpa [Str.length] using h2
      · show (ixN s.length i).bind _ = _
        rw [show ixN s.length i = some j from ej]
        exact ek
      · refine end_pv c ?_ h
        simp only [VD]
        refine ⟨by simp, fun z hz => ?_, by simp [LIM]⟩
        rw [List.mem_singleton] at hz
        subst hz
        exact h1 _ (List.mem_of_getElem? ek)
  · -- tuple
    rename_i xs i
    obtain ⟨a, vs, e1, h1, h2, _⟩ := rb_tup c hx
    simp only [VD] at hy
    subst e1 hy
    cases e : atD xs i with
    | none => rw [show idxD (.tup xs) (.int i) = _ from e] at h; exact h.elim
    | some d =>
      rw [show idxD (.tup xs) (.int i) = _ from e] at h
      obtain ⟨v, e2, hv⟩ := vds_at h2 e
      exact .inr (.inl ⟨a, vs, i, v, rfl, rfl, SqT.of h1, e2, end_pv c hv h⟩)
  · -- list
    rename_i xs i
    obtain ⟨a, vs, e1, h1, h2⟩ := rb_lst hx
    simp only [VD] at hy
    subst e1 hy
    cases e : atD xs i with
    | none => rw [show idxD (.lst xs) (.int i) = _ from e] at h; exact h.elim
    | some d =>
      rw [show idxD (.lst xs) (.int i) = _ from e] at h
      obtain ⟨v, e2, hv⟩ := vds_at h2 e
      exact .inl ⟨a, vs, i, v, rfl, rfl, SqL.of h1, e2, end_pv c hv h⟩
  · -- the script
    rename_i xs i
    obtain ⟨a, o, vs, e1, h1, h2⟩ := rb_fro c hx
    simp only [VD] at hy
    subst e1 hy
    cases e : atD xs i with
    | none => rw [show idxD (.fro xs) (.int i) = _ from e] at h; exact h.elim
    | some d =>
      rw [show idxD (.fro xs) (.int i) = _ from e] at h
      obtain ⟨v, e2, hv⟩ := vds_at h2 e
      exact .inl ⟨a, vs, i, v, rfl, rfl, .inl (.inr ⟨o, h1⟩), e2, end_pv c hv h⟩

theorem sIx_eq (n d : Nat) (o : Option Int) : sIx n d o = HT.sIx n d o := by cases o <;> rfl
theorem vds_cut {xs : List D} {vs : List V} (h : VDs F m xs vs) (lo hi : Option Int) : VDs F m (cut xs lo hi) (cutV vs lo hi) := by
  unfold cut cutV
  rw [sIx_eq, sIx_eq, ← h.length]
  exact (h.drop _).take _
/-- a slice, by what Lt reckons -/
def OkSl (X : Cx) (f : D → Option Int → Option Int → Option D) : Prop := ∃ r : V → Option Int → Option Int → Hp → VK → Prop, SlR X r ∧
  ∀ {F m mem H xr w Q x v lo hi}, Core F m mem H → RB F m H x v → Res xr PF F m H w Q (R.of (f x lo hi) mem) → r v lo hi H Q
theorem cut_mem {s : List Nat} {lo hi : Option Int} {c : Nat} (h : c ∈ cut s lo hi) : c ∈ s := List.mem_of_mem_drop (List.mem_of_mem_take h)
theorem cut_le {α : Type} (s : List α) (lo hi : Option Int) : (cut s lo hi).length ≤ s.length := by
  unfold cut
  rw [List.length_take, List.length_drop]
  omega
theorem ok_slc : OkSl X slcD := by
  refine ⟨_, (sl_list (X := X)).or (sl_tupA.or sl_str), ?_⟩
  intro F m mem H xr w Q x v lo hi c hx h
  cases x <;> first | exact h.elim | skip
  · rename_i s
    obtain ⟨e1, h1, h2⟩ := rb_str hx
    subst e1
    refine .inr (.inr ⟨_, rfl, by rw [LIM_eq]; simpa [Str.length] using h2, ?_⟩)
    have e : cutS ⟨s.toArray⟩ lo hi = ⟨(cut s lo hi).toArray⟩ := by
      unfold cutS cut
      rw [sIx_eq, sIx_eq]
      simp [Str.length]
    rw [e]
    exact end_str c (fun x hx => h1 x (cut_mem hx)) (Nat.le_trans (cut_le _ _ _) h2) h
  · rename_i xs
    obtain ⟨a, vs, e1, h1, h2, h3⟩ := rb_tup c hx
    refine .inr (.inl ⟨a, vs, e1, SqT.of h1, fun q => ?_, fun _ => end_tup c (vds_cut h2 lo hi) h⟩)
    have e : cut xs lo hi = xs := by
      unfold cut
      rw [sIx_eq, sIx_eq, h2.length, q.1, q.2]
      simp [← h2.length]
    have h' : Res xr PF F m H w Q (.ok (.tup (cut xs lo hi)) mem) := h
    rw [e] at h'
    rw [← e1]
    exact end_vd c h3 (fun _ z => by cases z) h'
  · rename_i xs
    obtain ⟨a, vs, e1, h1, h2⟩ := rb_lst hx
    exact .inl ⟨a, vs, e1, SqL.of h1, end_lst c (vds_cut h2 lo hi) h⟩

/-! ### calls of built-ins -/
/-- operands that are read -/
def PRs : Rl (List D) (List V) := fun H0 F m H ds vs => Paired (fun d v => PR H0 F m H d v) ds vs
def RBs (F : Hp) (m : List Addr) (H : Hp) : List D → List V → Prop := Paired fun d v => RB F m H d v
theorem PRs.anti : Anti PRs := ⟨fun _ h => h⟩
theorem PRs.step {d : List D} {v : List V} {H0 H0' : Hp} (s : Step F m H F' m' H') (h : PRs H0 F m H d v) : PRs H0' F' m' H' d v := Paired.mapP h fun _ _ p => p.step s
theorem RBs.of {H0 : Hp} (c : Core F m mem H) : ∀ {d : List D} {v : List V}, PRs H0 F m H d v → RBs F m H (d.map (deref mem)) v
  | _, _, .nil => .nil
  | _, _, .cons p t => .cons (RB.of c p) (RBs.of c t)
/-- a built-in's call, by what Lt reckons -/
def OkC (X : Cx) (g : Value) (f : List D → Option D) : Prop := ∃ r : List V → Hp → VK → Prop, CallR X g r ∧
  ∀ {F m mem H xr w Q xs vs}, Core F m mem H → RBs F m H xs vs → Res xr PF F m H w Q (R.of (f xs) mem) → r vs H Q
theorem rbs1 {x : D} {vs : List V} (h : RBs F m H [x] vs) : ∃ v, vs = [v] ∧ RB F m H x v := by
  cases h with
  | cons p t => cases t; exact ⟨_, rfl, p⟩
theorem rbs2 {x y : D} {vs : List V} (h : RBs F m H [x, y] vs) : ∃ v u, vs = [v, u] ∧ RB F m H x v ∧ RB F m H y u := by
  cases h with
  | cons p t =>
    cases t with
    | cons q t => cases t; exact ⟨_, _, rfl, p, q⟩
theorem vds_bls : ∀ {xs : List D} {vs : List V} {l : List Bool}, VDs F m xs vs → blsOf xs = some l → vs = l.map V.bl
  | [], vs, l, h, e => by simp [VDs] at h; simp [blsOf] at e; subst h e; rfl
  | x :: xs, vs, l, h, e => by
    simp only [VDs] at h
    obtain ⟨u, us, rfl, h1, h2⟩ := h
    cases x <;> first | (simp [blsOf] at e; done) | skip
    simp only [blsOf, Option.map_eq_some_iff] at e
    obtain ⟨r, e1, e2⟩ := e
    subst e2
    simp only [VD] at h1
    rw [h1, List.map_cons, vds_bls h2 e1]
theorem vds_ints : ∀ {xs : List D} {vs : List V} {l : List Int}, VDs F m xs vs → intsOf xs = some l → vs = l.map V.int
  | [], vs, l, h, e => by simp [VDs] at h; simp [intsOf] at e; subst h e; rfl
  | x :: xs, vs, l, h, e => by
    simp only [VDs] at h
    obtain ⟨u, us, rfl, h1, h2⟩ := h
    cases x <;> first | (simp [intsOf] at e; done) | skip
    simp only [intsOf, Option.map_eq_some_iff] at e
    obtain ⟨r, e1, e2⟩ := e
    subst e2
    simp only [VD] at h1
    rw [h1, List.map_cons, vds_ints h2 e1]
theorem vds_strs : ∀ {xs : List D} {vs : List V} {l : List (List Nat)}, VDs F m xs vs → strsOf xs = some l → vs = (l.map fun s => (⟨s.toArray⟩ : Str)).map V.str ∧ ∀ s ∈ l, ∀ c ∈ s, c < 1114112
  | [], vs, l, h, e => by simp [VDs] at h; simp [strsOf] at e; subst h e; exact ⟨rfl, by simp⟩
  | x :: xs, vs, l, h, e => by
    simp only [VDs] at h
    obtain ⟨u, us, rfl, h1, h2⟩ := h
    cases x <;> first | (simp [strsOf] at e; done) | skip
    simp only [strsOf, Option.map_eq_some_iff] at e
    obtain ⟨r, e1, e2⟩ := e
    subst e2
    simp only [VD] at h1
    obtain ⟨h1, h3, _⟩ := h1
    obtain ⟨h4, h5⟩ := vds_strs h2 e1
    refine ⟨by rw [h1, List.map_cons, List.map_cons, h4], fun s hs => ?_⟩
    rcases List.mem_cons.mp hs with rfl | hs
    · exact h3
    · exact h5 s hs
theorem ok_len : OkC X (.builtin "len") (bltD .len) := by
  refine ⟨_, (call_len_seq (X := X)).or call_len_str, ?_⟩
  intro F m mem H xr w Q xs vs c hx h
  cases xs with
  | nil => exact h.elim
  | cons x r =>
    cases r with
    | cons _ _ => cases x <;> exact h.elim
    | nil =>
      obtain ⟨v, rfl, hv⟩ := rbs1 hx
      cases x <;> first | exact h.elim | skip
      · obtain ⟨e1, h1, h2⟩ := rb_str hv
        subst e1
        refine .inr ⟨_, rfl, by rw [LIM_eq]; simpa [Str.length] using h2, ?_⟩
        have h' := end_int c h
        simpa [Str.length] using h'
      · obtain ⟨a, us, e1, h1, h2, _⟩ := rb_tup c hv
        subst e1
        refine .inl ⟨a, us, rfl, .inr (SqT.of h1), ?_⟩
        rw [← h2.length]
        exact end_int c h
      · obtain ⟨a, us, e1, h1, h2⟩ := rb_lst hv
        subst e1
        refine .inl ⟨a, us, rfl, .inl (SqL.of h1), ?_⟩
        rw [← h2.length]
        exact end_int c h
      · obtain ⟨a, o, us, e1, h1, h2⟩ := rb_fro c hv
        subst e1
        refine .inl ⟨a, us, rfl, .inl (.inl (.inr ⟨o, h1⟩)), ?_⟩
        rw [← h2.length]
        exact end_int c h
theorem ok_all (hc : X.calm = true) : OkC X (.builtin "all") (bltD .all) := by
  refine ⟨_, cr_all hc, ?_⟩
  intro F m mem H xr w Q xs vs c hx h
  cases xs with
  | nil => exact h.elim
  | cons x r =>
    cases r with
    | cons _ _ => cases x <;> exact h.elim
    | nil =>
      obtain ⟨v, rfl, hv⟩ := rbs1 hx
      cases x <;> first | exact h.elim | skip
      rename_i xs
      obtain ⟨a, us, e1, h1, h2⟩ := rb_lst hv
      subst e1
      cases e : blsOf xs with
      | none => simp only [bltD, e, Option.map_none] at h; exact h.elim
      | some l =>
        simp only [bltD, e, Option.map_some] at h
        have := vds_bls h2 e
        subst this
        exact ⟨a, l, rfl, SqL.of h1, end_bl c h⟩
theorem ok_any (hc : X.calm = true) : OkC X (.builtin "any") (bltD .any) := by
  refine ⟨_, cr_any hc, ?_⟩
  intro F m mem H xr w Q xs vs c hx h
  cases xs with
  | nil => exact h.elim
  | cons x r =>
    cases r with
    | cons _ _ => cases x <;> exact h.elim
    | nil =>
      obtain ⟨v, rfl, hv⟩ := rbs1 hx
      cases x <;> first | exact h.elim | skip
      rename_i xs
      obtain ⟨a, us, e1, h1, h2⟩ := rb_lst hv
      subst e1
      cases e : blsOf xs with
      | none => simp only [bltD, e, Option.map_none] at h; exact h.elim
      | some l =>
        simp only [bltD, e, Option.map_some] at h
        have := vds_bls h2 e
        subst this
        exact ⟨a, l, rfl, SqL.of h1, end_bl c h⟩
theorem ok_sum (hc : X.calm = true) : OkC X (.builtin "sum") (bltD .sum) := by
  refine ⟨_, cr_sum hc, ?_⟩
  intro F m mem H xr w Q xs vs c hx h
  cases xs with
  | nil => exact h.elim
  | cons x r =>
    cases r with
    | cons _ _ => cases x <;> exact h.elim
    | nil =>
      obtain ⟨v, rfl, hv⟩ := rbs1 hx
      cases x <;> first | exact h.elim | skip
      rename_i xs
      obtain ⟨a, us, e1, h1, h2⟩ := rb_lst hv
      subst e1
      cases e : intsOf xs with
      | none => simp only [bltD, e, Option.map_none] at h; exact h.elim
      | some l =>
        simp only [bltD, e, Option.map_some] at h
        have := vds_ints h2 e
        subst this
        exact ⟨a, l, rfl, SqL.of h1, end_int c h⟩
theorem ok_max2 (hc : X.calm = true) : OkC X (.builtin "max") (bltD .max2) := by
  refine ⟨_, call_max2 hc, ?_⟩
  intro F m mem H xr w Q xs vs c hx h
  match xs, hx, h with
  | [], hx, h => exact h.elim
  | [x], hx, h => cases x <;> exact h.elim
  | x :: y :: z :: r, hx, h => cases x <;> first | exact h.elim | (cases y <;> exact h.elim)
  | [x, y], hx, h =>
    obtain ⟨v, u, rfl, hv, hu⟩ := rbs2 hx
    cases x <;> first | exact h.elim | skip
    cases y <;> first | exact h.elim | skip
    have e1 := rb_int hv
    have e2 := rb_int hu
    subst e1 e2
    exact ⟨_, _, rfl, end_int c h⟩
theorem ok_min2 (hc : X.calm = true) : OkC X (.builtin "min") (bltD .min2) := by
  refine ⟨_, call_min2 hc, ?_⟩
  intro F m mem H xr w Q xs vs c hx h
  match xs, hx, h with
  | [], hx, h => exact h.elim
  | [x], hx, h => cases x <;> exact h.elim
  | x :: y :: z :: r, hx, h => cases x <;> first | exact h.elim | (cases y <;> exact h.elim)
  | [x, y], hx, h =>
    obtain ⟨v, u, rfl, hv, hu⟩ := rbs2 hx
    cases x <;> first | exact h.elim | skip
    cases y <;> first | exact h.elim | skip
    have e1 := rb_int hv
    have e2 := rb_int hu
    subst e1 e2
    exact ⟨_, _, rfl, end_int c h⟩
theorem ok_int : OkC X (.type "int") (bltD .int) := by
  refine ⟨_, call_int1 (X := X), ?_⟩
  intro F m mem H xr w Q xs vs c hx h
  cases xs with
  | nil => exact h.elim
  | cons x r =>
    cases r with
    | cons _ _ => cases x <;> exact h.elim
    | nil =>
      obtain ⟨v, rfl, hv⟩ := rbs1 hx
      cases x <;> first | exact h.elim | skip
      · have e1 := rb_bl hv
        subst e1
        exact .inr ⟨_, rfl, end_int c h⟩
      · have e1 := rb_int hv
        subst e1
        exact .inl ⟨_, rfl, end_int c h⟩
theorem ok_list : OkC X (.type "list") (bltD .list) := by
  refine ⟨_, call_list_of (X := X), ?_⟩
  intro F m mem H xr w Q xs vs c hx h
  cases xs with
  | nil => exact h.elim
  | cons x r =>
    cases r with
    | cons _ _ => cases x <;> exact h.elim
    | nil =>
      obtain ⟨v, rfl, hv⟩ := rbs1 hx
      cases x <;> first | exact h.elim | skip
      · obtain ⟨a, us, e1, h1, h2, _⟩ := rb_tup c hv
        subst e1
        exact ⟨a, us, rfl, .inr (SqT.of h1), end_lst c h2 h⟩
      · obtain ⟨a, us, e1, h1, h2⟩ := rb_lst hv
        subst e1
        exact ⟨a, us, rfl, .inl (SqL.of h1), end_lst c h2 h⟩
theorem ok_tuple : OkC X (.type "tuple") (bltD .tuple) := by
  refine ⟨_, call_tuple_of (X := X), ?_⟩
  intro F m mem H xr w Q xs vs c hx h
  cases xs with
  | nil => exact h.elim
  | cons x r =>
    cases r with
    | cons _ _ => cases x <;> exact h.elim
    | nil =>
      obtain ⟨v, rfl, hv⟩ := rbs1 hx
      cases x <;> first | exact h.elim | skip
      · obtain ⟨a, us, e1, h1, h2, h3⟩ := rb_tup c hv
        refine ⟨a, us, by rw [e1], .inr ⟨SqT.of h1, ?_⟩⟩
        rw [← e1]
        exact end_vd c h3 (fun _ z => by cases z) h
      · obtain ⟨a, us, e1, h1, h2⟩ := rb_lst hv
        subst e1
        exact ⟨a, us, rfl, .inl ⟨SqL.of h1, end_tup c h2 h⟩⟩
theorem ok_ord : OkC X (.builtin "ord") (bltD .ord) := by
  refine ⟨_, call_ord (X := X), ?_⟩
  intro F m mem H xr w Q xs vs c hx h
  cases xs with
  | nil => exact h.elim
  | cons x r =>
    cases r with
    | cons _ _ => cases x <;> first | exact h.elim | (rename_i s; cases s <;> first | exact h.elim | (rename_i s; cases s <;> exact h.elim))
    | nil =>
      obtain ⟨v, rfl, hv⟩ := rbs1 hx
      cases x <;> first | exact h.elim | skip
      rename_i s
      obtain ⟨e1, h1, h2⟩ := rb_str hv
      subst e1
      cases s with
      | nil => exact h.elim
      | cons a s =>
        cases s with
        | cons _ _ => exact h.elim
        | nil => exact ⟨_, rfl, rfl, end_int c h⟩
theorem ok_abs : OkC X (.builtin "abs") (bltD .abs) := by
  refine ⟨_, call_abs (X := X), ?_⟩
  intro F m mem H xr w Q xs vs c hx h
  cases xs with
  | nil => exact h.elim
  | cons x r =>
    cases r with
    | cons _ _ => cases x <;> exact h.elim
    | nil =>
      obtain ⟨v, rfl, hv⟩ := rbs1 hx
      cases x <;> first | exact h.elim | skip
      have e1 := rb_int hv
      subst e1
      exact ⟨_, rfl, end_int c h⟩

/-! ### methods of texts -/
def OkM (X : Cx) (T id : String) (f : D → List D → Option D) : Prop := ∃ r : V → List V → Hp → VK → Prop, MtR X id r ∧
  ∀ {F m mem H xr w Q x v xs vs}, Core F m mem H → RB F m H x v → RBs F m H xs vs → Res xr PF F m H w Q (R.of (f x xs) mem) → r v vs H Q
theorem ok_find1 : OkM X "str" "str.find" (mthD .find1) := by
  refine ⟨_, mt_find (X := X), ?_⟩
  intro F m mem H xr w Q x v xs vs c hx hxs h
  cases x <;> first | exact h.elim | skip
  rename_i s
  obtain ⟨e1, h1, h2⟩ := rb_str hx
  subst e1
  match xs, hxs, h with
  | [], hxs, h => exact h.elim
  | y :: z :: r, hxs, h => cases y <;> exact h.elim
  | [y], hxs, h =>
    obtain ⟨u, rfl, hu⟩ := rbs1 hxs
    cases y <;> first | exact h.elim | skip
    rename_i p
    obtain ⟨e2, _⟩ := rb_str hu
    subst e2
    cases p with
    | nil => exact h.elim
    | cons a p =>
      refine ⟨_, _, rfl, rfl, ?_⟩
      have k := occ_find (a :: p) s (by simp) 0
      rw [List.drop_zero] at k
      have e : Txt.find ⟨s.toArray⟩ ⟨(a :: p).toArray⟩ = (match findFrom (a :: p) s 0 with | some i => (i : Int) | none => -1) := by
        rw [← k]
        unfold Txt.find
        cases Builtin.Str.occurrences ⟨s.toArray⟩ ⟨(a :: p).toArray⟩ 0 (⟨s.toArray⟩ : Str).length 1 <;> rfl
      rw [e]
      exact end_int c h
theorem ok_find2 : OkM X "str" "str.find" (mthD .find2) := by
  refine ⟨_, mt_find3 (X := X), ?_⟩
  intro F m mem H xr w Q x v xs vs c hx hxs h
  cases x <;> first | exact h.elim | skip
  rename_i s
  obtain ⟨e1, h1, h2⟩ := rb_str hx
  subst e1
  match xs, hxs, h with
  | [], hxs, h => exact h.elim
  | [y], hxs, h => cases y <;> exact h.elim
  | y :: z :: z' :: r, hxs, h => cases y <;> first | exact h.elim | (cases z <;> exact h.elim)
  | [y, z], hxs, h =>
    obtain ⟨u, u', rfl, hu, hu'⟩ := rbs2 hxs
    cases y <;> first | exact h.elim | skip
    cases z <;> first | exact h.elim | skip
    rename_i p i
    obtain ⟨e2, _⟩ := rb_str hu
    have e3 := rb_int hu'
    subst e2 e3
    by_cases hc : p.isEmpty ∨ i < 0 ∨ (s.length : Int) < i
    · rw [show mthD .find2 (.str s) [.str p, .int i] = none from if_pos hc] at h
      exact h.elim
    · rw [show mthD .find2 (.str s) [.str p, .int i] = some _ from if_neg hc] at h
      refine ⟨_, _, _, rfl, rfl, ?_⟩
      have hp : p ≠ [] := fun z => hc (.inl (by rw [z]; rfl))
      have hi : fromIndex (⟨s.toArray⟩ : Str).length i = i.toNat := by
        unfold fromIndex
        rw [if_neg (by omega)]
        omega
      have k := occ_find p s hp i.toNat
      have e : Txt.find3 ⟨s.toArray⟩ ⟨p.toArray⟩ i = (match findFrom p (s.drop i.toNat) i.toNat with | some i => (i : Int) | none => -1) := by
        rw [← k]
        unfold Txt.find3
        rw [hi]
        cases Builtin.Str.occurrences ⟨s.toArray⟩ ⟨p.toArray⟩ i.toNat (⟨s.toArray⟩ : Str).length 1 <;> rfl
      rw [e]
      exact end_int c h
theorem join_joinC (a : List Nat) : ∀ l : List (List Nat), Str.join ⟨a.toArray⟩ (l.map fun s => (⟨s.toArray⟩ : Str)) = ⟨(joinC a l).toArray⟩
  | [] => rfl
  | [x] => rfl
  | x :: y :: r => by
    have ih := join_joinC a (y :: r)
    show (⟨x.toArray⟩ : Str) ++ (⟨a.toArray⟩ : Str) ++ Str.join ⟨a.toArray⟩ ((y :: r).map fun s => (⟨s.toArray⟩ : Str)) = _
    rw [ih, str_cat, str_cat]
    rfl
theorem joinC_mem {a : List Nat} {c : Nat} : ∀ {l : List (List Nat)}, c ∈ joinC a l → c ∈ a ∨ ∃ s ∈ l, c ∈ s
  | [], h => by simp [joinC] at h
  | [x], h => .inr ⟨x, by simp, h⟩
  | x :: y :: r, h => by
    have h : c ∈ x ++ a ++ joinC a (y :: r) := h
    rw [List.mem_append, List.mem_append] at h
    rcases h with (h | h) | h
    · exact .inr ⟨x, by simp, h⟩
    · exact .inl h
    · rcases joinC_mem h with h | ⟨s, h1, h2⟩
      · exact .inl h
      · exact .inr ⟨s, List.mem_cons_of_mem _ h1, h2⟩
theorem joinC_len (a : List Nat) : ∀ l : List (List Nat), (joinC a l).length ≤ (l.map List.length).sum + a.length * l.length
  | [] => by simp [joinC]
  | [x] => by simp [joinC]
  | x :: y :: r => by
    have ih := joinC_len a (y :: r)
    show (x ++ a ++ joinC a (y :: r)).length ≤ _
    rw [List.length_append, List.length_append, List.map_cons, List.sum_cons, List.length_cons (a := x), Nat.mul_add]
    omega
theorem ok_join : OkM X "str" "str.join" (mthD .join) := by
  refine ⟨_, mt_join (X := X), ?_⟩
  intro F m mem H xr w Q x v xs vs c hx hxs h
  cases x <;> first | exact h.elim | skip
  rename_i a
  obtain ⟨e1, h1, h2⟩ := rb_str hx
  subst e1
  match xs, hxs, h with
  | [], hxs, h => exact h.elim
  | y :: z :: r, hxs, h => cases y <;> exact h.elim
  | [y], hxs, h =>
    obtain ⟨u, rfl, hu⟩ := rbs1 hxs
    cases y <;> first | exact h.elim | skip
    rename_i xs
    obtain ⟨p, us, e2, h3, h4⟩ := rb_lst hu
    subst e2
    cases e : strsOf xs with
    | none => simp only [mthD, e, Option.bind_none] at h; exact h.elim
    | some l =>
      simp only [mthD, e, Option.bind_some] at h
      by_cases hc : (l.map List.length).sum + a.length * l.length ≤ LIM
      · rw [if_pos hc] at h
        obtain ⟨h5, h6⟩ := vds_strs h4 e
        subst h5
        refine ⟨_, p, _, rfl, rfl, .inl (SqL.of h3), ?_, ?_⟩
        · rw [List.map_map, List.length_map]
          have : (l.map ((fun x : Str => x.length) ∘ fun s => (⟨s.toArray⟩ : Str))).sum = (l.map List.length).sum := by
            congr 1
          rw [this, Nat.mul_comm]
          simpa [Str.length, LIM] using hc
        · rw [TL.join_eq, join_joinC]
          refine end_str c (fun x hx => ?_) (Nat.le_trans (joinC_len a l) hc) h
          rcases joinC_mem hx with q | ⟨s, q1, q2⟩
          · exact h1 x q
          · exact h6 s q1 x q2
      · rw [if_neg hc] at h
        exact h.elim

/-- what the receiver of a text's method is -/
theorem ty_str {K : PySem.W.Frag} {f : Mth} {x : D} {v : V} (hf : ∀ xs, mthT f (.lst xs) = false) (h : RB F m H x v) (ht : mthT f x = true) : tyV K "str" v H := by
  cases x with
  | str s => obtain ⟨e, _⟩ := rb_str h; subst e; rfl
  | lst xs => rw [hf xs] at ht; cases ht
  | _ => cases f <;> exact Bool.noConfusion ht
/-! ### isinstance -/
def tyName : D → String
  | .non => "NoneType" | .bl _ => "bool" | .int _ => "int" | .str _ => "str" | .tup _ => "tuple" | .lst _ => "list" | .fro _ => "list" | .dic _ => "dict"
  | _ => ""
def Ty.name : Ty → String
  | .str => "str" | .int => "int" | .bool => "bool" | .list => "list" | .tuple => "tuple" | .dict => "dict"
theorem rb_ty {K : PySem.W.Frag} {d : D} {v : V} (c : Core F m mem H) (h : RB F m H d v) : TyX K H v (.type (tyName d)) := by
  cases d with
  | non => have := rb_non h; subst this; exact .base .non
  | bl b => have := rb_bl h; subst this; exact .base (.bl b)
  | int i => have := rb_int h; subst this; exact .base (.int i)
  | str s => obtain ⟨e, _⟩ := rb_str h; subst e; exact .base (.str _)
  | tup xs => obtain ⟨a, vs, e, h1, _⟩ := rb_tup c h; subst e; exact .base (.tup h1)
  | lst xs => obtain ⟨a, vs, e, h1, _⟩ := rb_lst h; subst e; exact .base (.lst h1)
  | fro xs => obtain ⟨a, o, vs, e, h1, _⟩ := rb_fro c h; subst e; exact .base (.frz h1)
  | dic _ => exact absurd h (by simp [RB, VD])
  | itr _ => exact absurd h (by simp [RB, VD])
  | ref j => exact absurd h (by simp [RB])
theorem kitB_all : ∀ d : D, tyName d ≠ "" → ∀ t : Ty, kitB (tyName d) t.name = some (isTy d t) := by
  intro d hd t
  cases d <;> first | exact absurd rfl hd | skip
  all_goals (cases t <;> (simp only [tyName, Ty.name, isTy]; decide +kernel))
theorem rb_named {d : D} {v : V} (h : RB F m H d v) : tyName d ≠ "" := by
  cases d with
  | dic _ => exact absurd h (by simp [RB, VD])
  | itr _ => exact absurd h (by simp [RB, VD])
  | ref j => exact absurd h (by simp [RB])
  | _ => simp [tyName]
theorem kitAny_all {K : PySem.W.Frag} {d : D} (hd : tyName d ≠ "") : ∀ ts : List Ty, PySem.W.kitAny K (.type (tyName d)) (ts.map fun t => .type t.name) = some (ts.any (isTy d))
  | [] => rfl
  | t :: ts => by
    have h1 := kit_ty (K := K) (kitB_all d hd t)
    have ih := kitAny_all (K := K) hd ts
    rw [List.map_cons, List.any_cons]
    unfold PySem.W.kitAny
    rw [h1]
    cases e : isTy d t with
    | true => rfl
    | false => simpa using ih
end Lt

set_option Elab.async false
set_option linter.all false
set_option maxRecDepth 100000
set_option maxHeartbeats 4000000
/-! Lt6: expressions: the check of a term against a row, what it gives. -/
namespace Lt
open PySem PySem.Spec PyProof.Rows L2
variable {F F' F1 F2 : Hp} {m m' m1 m2 : List Addr} {H H' H1 H2 B : Hp} {mem mem' mem1 mem2 : Mem} {X : Cx}

/-- what is fixed within a body -/
structure Pm where
  xr : XR
  B : Hp
  xa : Option Addr
  v : Cv
  W : WX
/-- what a text's check leans on: the table, the slots' names, the scope, which names may be stored, whether an exception is handled -/
structure Ck where
  G : Tab
  N : List Str
  sc : Scope
  loc : Str → Bool
  hot : Bool
/-- a reading by an evaluation -/
def tG {α β : Type} (p : Pm) (P : Rl α β) (f : Sl → Mem → R α) : L2.St → Hp → (β → Hp → Prop) → Prop := fun σ H Q =>
  ∃ F m sl mem, Core F m mem H ∧ Slots p.B F m H p.xa sl σ ∧ Res p.xr P F m H (fun c d H' => p.W c d σ H') Q (f sl mem)
abbrev tE (p : Pm) (e : E) : TE := tG p PV (ev p.v e)
abbrev tF (p : Pm) (e : E) : TE := tG p PF (ev p.v e)
abbrev tR (p : Pm) (e : E) : TE := tG p PR fun sl m => rdV sl e m (ev p.v e sl m)
def PB : Rl Bool Bool := fun _ _ _ _ a b => a = b
theorem PB.anti : Anti PB := ⟨fun _ h => h⟩
@[simp] def asB : D → Mem → R Bool
  | .bl b, m => .ok b m
  | _, _ => .stuck
abbrev tT (p : Pm) (e : E) : TT := tG p PB fun sl m => (ev p.v e sl m).bind asB
abbrev tAs (p : Pm) (es : List E) : TA := tG p PVs (evs p.v es)
abbrev tRs (p : Pm) (es : List E) : TA := tG p PRs (evr p.v es)

theorem weakE {e : Expr} {t t' : TE} (h : PE X e t) (hh : ∀ σ H Q, t' σ H Q → t σ H Q) : PE X e t' := ⟨fun pins s σ H Q I q => h.run pins s σ H Q I (hh σ H Q q)⟩
theorem weakT {e : Expr} {t t' : TT} (h : PT X e t) (hh : ∀ σ H Q, t' σ H Q → t σ H Q) : PT X e t' := ⟨fun pins s σ H Q I q => h.run pins s σ H Q I (hh σ H Q q)⟩
theorem weakW {e : Expr} {t t' : TT} (h : PW X e t) (hh : ∀ σ H Q, t' σ H Q → t σ H Q) : PW X e t' := ⟨fun wh pins s σ H Q I q => h.run wh pins s σ H Q I (hh σ H Q q)⟩
theorem weakA {e : List Expr} {t t' : TA} (h : PA X e t) (hh : ∀ σ H Q, t' σ H Q → t σ H Q) : PA X e t' := ⟨fun pos pins s σ H Q I q => h.run pos pins s σ H Q I (hh σ H Q q)⟩
theorem tG.mono {α β : Type} {p : Pm} {P : Rl α β} {f : Sl → Mem → R α} {σ : L2.St} {Q Q' : β → Hp → Prop} (h : tG p P f σ H Q) (hq : ∀ b H, Q b H → Q' b H) : tG p P f σ H Q' := by
  obtain ⟨F, m, sl, mem, c, s, r⟩ := h
  exact ⟨F, m, sl, mem, c, s, r.mono hq⟩
/-- one evaluation, then what follows -/
theorem tG.bind {α β γ δ : Type} {p : Pm} {P : Rl α β} {P2 : Rl γ δ} (ha : Anti P2) {f : Sl → Mem → R α} {g : Sl → α → Mem → R γ} {σ : L2.St} {Q : δ → Hp → Prop}
    (h : tG p P2 (fun sl m => (f sl m).bind (g sl)) σ H Q) :
    tG p P f σ H fun b H1 => ∃ F m sl mem a H0, Core F m mem H1 ∧ Slots p.B F m H1 p.xa sl σ ∧ P H0 F m H1 a b ∧ Res p.xr P2 F m H1 (fun c d H' => p.W c d σ H') Q (g sl a mem) := by
  obtain ⟨F, m, sl, mem, c, s, r⟩ := h
  refine ⟨F, m, sl, mem, c, s, (Res.bind (P := P) (P2 := P2) ha r).mono fun b H1 ⟨F1, m1, a, mem1, st, c1, pr, _, r1⟩ => ⟨F1, m1, sl, mem1, a, H, c1, s.step st, pr, r1⟩⟩
theorem E_of_F {e : Expr} {p : Pm} {x : E} (h : PE X e (tF p x)) : PE X e (tE p x) := weakE h fun σ H Q ⟨F, m, sl, mem, c, s, r⟩ => ⟨F, m, sl, mem, c, s, r.froze⟩
theorem PV.toPR {d : D} {v : V} {H0 : Hp} (h : PV H0 F m H d v) : PR H0 F m H d v := .inl h
theorem PF.toPR {d : D} {v : V} {H0 : Hp} (h : PF H0 F m H d v) : PR H0 F m H d v := by
  cases d with
  | lst xs => obtain ⟨p, vs, e, _, h1, h2, h3, h4⟩ := h; exact .inr ⟨p, e, h1, h2, vs, h3, h4⟩
  | _ => exact .inl h
theorem Res.imp {α β : Type} {xr : XR} {P P' : Rl α β} {w : Value → Option Addr → Hp → Prop} {Q : β → Hp → Prop} {r : R α} (hp : ∀ {H0 F m H a b}, P H0 F m H a b → P' H0 F m H a b) (h : Res xr P' F m H w Q r) : Res xr P F m H w Q r := by
  cases r with
  | ok a mem' => exact fun b F' m' H' s c p => h b F' m' H' s c (hp p)
  | exc x mem' => exact h
  | stuck => exact h
theorem R_of_E {e : Expr} {p : Pm} {x : E} (hx : ∀ i, x ≠ .var i) (h : PE X e (tE p x)) : PE X e (tR p x) := weakE h fun σ H Q ⟨F, m, sl, mem, c, s, r⟩ => by
  refine ⟨F, m, sl, mem, c, s, ?_⟩
  have e : rdV sl x mem (ev p.v x sl mem) = ev p.v x sl mem := by
    cases x <;> first | rfl | exact absurd rfl (hx _)
  have r' : Res p.xr PR F m H (fun c d H' => p.W c d σ H') Q (ev p.v x sl mem) := by rw [← e]; exact r
  exact r'.imp PV.toPR
theorem R_of_F {e : Expr} {p : Pm} {x : E} (hx : ∀ i, x ≠ .var i) (h : PE X e (tF p x)) : PE X e (tR p x) := weakE h fun σ H Q ⟨F, m, sl, mem, c, s, r⟩ => by
  refine ⟨F, m, sl, mem, c, s, ?_⟩
  have e : rdV sl x mem (ev p.v x sl mem) = ev p.v x sl mem := by
    cases x <;> first | rfl | exact absurd rfl (hx _)
  have r' : Res p.xr PR F m H (fun c d H' => p.W c d σ H') Q (ev p.v x sl mem) := by rw [← e]; exact r
  exact r'.imp PF.toPR

/-! ### names and constants -/
def visB (sc : Scope) (x : Str) : Bool := match sc.names.lookup x with
  | some .local => true
  | some .cell => true
  | some .free => true
  | _ => false
theorem visB_ok {sc : Scope} {x : Str} (h : visB sc x = true) : Vis sc x := by
  unfold visB at h
  unfold Vis
  split at h <;> first | exact .inl (by assumption) | exact .inr (.inl (by assumption)) | exact .inr (.inr (by assumption)) | cases h
def glB (sc : Scope) (x : Str) : Bool := match sc.names.lookup x with
  | some .globalImplicit => true
  | _ => false
theorem glB_ok {sc : Scope} {x : Str} (hs : X.env.scope = sc) (h : glB sc x = true) : Gl X x := by
  unfold glB at h
  show X.env.scope.names.lookup x = _
  rw [hs]
  split at h <;> first | assumption | cases h
def varB (k : Ck) (i : Nat) (x : Str) : Bool := decide (k.N[i]? = some x) && visB k.sc x && !(x == ("__debug__" : Str)) && !(x == ("__classdict__" : Str))
theorem pe_varT {i : Nat} {x : Str} {pos : Pos} {k : Ck} (hN : X.N = k.N) (hs : X.env.scope = k.sc) (h : varB k i x = true) : PE X (.Name x pos) (tVar i) := by
  unfold varB at h
  simp only [Bool.and_eq_true, decide_eq_true_eq, Bool.not_eq_true'] at h
  exact pe_var (by rw [hN]; exact h.1.1.1) (by rw [hs]; exact visB_ok h.1.1.2) h.1.2 h.2
theorem pe_varE {i : Nat} {x : Str} {pos : Pos} {k : Ck} {p : Pm} (hN : X.N = k.N) (hs : X.env.scope = k.sc) (h : varB k i x = true) : PE X (.Name x pos) (tE p (.var i)) :=
  weakE (pe_varT hN hs h) fun σ H Q ⟨F, m, sl, mem, c, s, r⟩ => by
    have a := s.at_ i
    simp only [ev] at r
    cases e : getS sl i with
    | no => rw [e] at r; exact r.elim
    | own d => rw [e] at r; exact r.elim
    | exn d => rw [e] at r; exact r.elim
    | val d =>
      rw [e] at r a
      obtain ⟨v, e1, hv⟩ := a
      exact ⟨v, e1, end_pv c hv r⟩
theorem pe_varR {i : Nat} {x : Str} {pos : Pos} {k : Ck} {p : Pm} (hN : X.N = k.N) (hs : X.env.scope = k.sc) (h : varB k i x = true) : PE X (.Name x pos) (tR p (.var i)) :=
  weakE (pe_varT hN hs h) fun σ H Q ⟨F, m, sl, mem, c, s, r⟩ => by
    have a := s.at_ i
    simp only [rdV] at r
    cases e : getS sl i with
    | no => rw [e] at r; exact r.elim
    | exn d => rw [e] at r; exact r.elim
    | own d =>
      rw [e] at r a
      obtain ⟨v, e1, h1, h2, _, h3⟩ := a
      exact ⟨_, e1, r _ _ _ _ Step.refl c (.inr ⟨v, rfl, h1, h2, h3⟩)⟩
    | val d =>
      rw [e] at r a
      obtain ⟨v, e1, hv⟩ := a
      exact ⟨v, e1, r _ _ _ _ Step.refl c (.inl hv)⟩

/-! ### operators -/
theorem two {r : R2} {f : D → D → Option D} (hr : ∀ {F m mem H xr w Q x y v u}, Core F m mem H → RB F m H x v → RB F m H y u → Res xr PF F m H w Q (R.of (f x y) mem) → r v u H Q) {p : Pm} {a b : E} {σ : L2.St} {Q : V → Hp → Prop}
    (h : tG p PF (fun sl m => (rdV sl a m (ev p.v a sl m)).bind fun x m => (rdV sl b m (ev p.v b sl m)).bind fun y m => R.of (f (deref m x) (deref m y)) m) σ H Q) : tOp r (tR p a) (tR p b) σ H Q := by
  refine (tG.bind (P := PR) PF.anti h).mono fun v H1 ⟨F1, m1, sl1, mem1, x, H0, c1, s1, v1, r1⟩ => ?_
  refine ⟨F1, m1, sl1, mem1, c1, s1, (Res.bind (P := PR) (P2 := PF) PF.anti r1).mono fun u H2 ⟨F2, m2, y, mem2, st, c2, u2, _, r2⟩ => ?_⟩
  exact hr c2 (RB.of c2 (PR.step (H0' := H0) st v1)) (RB.of c2 u2) r2
theorem pe_bin2 {op : Operator} {o : Bop} {a b : Expr} {pos : Pos} {p : Pm} {x y : E} (ok : Ok2 X (binaryOp op) (binD o)) (ha : PE X a (tR p x)) (hb : PE X b (tR p y)) : PE X (.BinOp a op b pos) (tF p (.bin o x y)) := by
  obtain ⟨r, ho, hr⟩ := ok
  exact weakE (pe_op ho ha hb) fun σ H Q h => by
    have h2 : tG p PF (fun sl m => ev p.v _ sl m) σ H Q := h
    simp only [ev] at h2
    exact two (fun c h1 h2 h3 => hr c h1 h2 h3) h2
theorem pe_cmp2 {op : CmpOp} {o : Cop} {a b : Expr} {pos : Pos} {p : Pm} {x y : E} (ok : Ok2 X (compareOp op) (cmpB o)) (ha : PE X a (tR p x)) (hb : PE X b (tR p y)) (hm : behindInMarks op b = false) : PE X (.Compare a [op] [b] pos) (tF p (.cmp o x y)) := by
  obtain ⟨r, ho, hr⟩ := ok
  exact weakE (pe_cmpR ho ha hb hm) fun σ H Q h => by
    have h2 : tG p PF (fun sl m => ev p.v _ sl m) σ H Q := h
    simp only [ev] at h2
    exact two (fun c h1 h2 h3 => hr c h1 h2 h3) h2
/-- a value that is a bool, as a test -/
theorem T_of_F {p : Pm} {x : E} {σ : L2.St} {Q : Bool → Hp → Prop} (h : tT p x σ H Q) : tF p x σ H fun v H' => ∃ k, v = .bl k ∧ Q k H' := by
  refine (tG.bind (P := PF) PB.anti (f := ev p.v x) h).mono fun v H1 ⟨F1, m1, sl1, mem1, d, H0, c1, s1, v1, r1⟩ => ?_
  cases d <;> first | exact r1.elim | skip
  rename_i b
  have e : v = .bl b := by simpa [PF, VD] using v1
  exact ⟨b, e, r1 _ _ _ _ Step.refl c1 rfl⟩
theorem T_of_E {p : Pm} {x : E} {σ : L2.St} {Q : Bool → Hp → Prop} (h : tT p x σ H Q) : tE p x σ H fun v H' => ∃ k, v = .bl k ∧ Q k H' := by
  refine (tG.bind (P := PV) PB.anti (f := ev p.v x) h).mono fun v H1 ⟨F1, m1, sl1, mem1, d, H0, c1, s1, v1, r1⟩ => ?_
  cases d <;> first | exact r1.elim | skip
  rename_i b
  have e : v = .bl b := by simpa [PV, VD] using v1
  exact ⟨b, e, r1 _ _ _ _ Step.refl c1 rfl⟩
theorem pt_cmp2 {op : CmpOp} {o : Cop} {a b : Expr} {pos : Pos} {p : Pm} {x y : E} (ok : Ok2 X (compareOp op) (cmpB o)) (ha : PE X a (tR p x)) (hb : PE X b (tR p y)) (hm : behindInMarks op b = false) : PT X (.Compare a [op] [b] pos) (tT p (.cmp o x y)) := by
  obtain ⟨r, ho, hr⟩ := ok
  refine weakT (pt_cmpR ho ha hb hm) fun σ H Q h => ?_
  have h2 : tG p PF (fun sl m => ev p.v _ sl m) σ H _ := T_of_F h
  simp only [ev] at h2
  exact two (fun c h1 h2 h3 => hr c h1 h2 h3) h2
theorem Ok2.of_known {r : R2} {f : D → D → Option D} (hr : ∀ {F m mem H xr w Q x y v u}, Core F m mem H → RB F m H x v → RB F m H y u → Res xr PF F m H w Q (R.of (f x y) mem) → r v u H Q)
    {xr : XR} {w : Value → Option Addr → Hp → Prop} {x y : D} {v u : V} {b : Bool} {Q : V → Hp → Prop} (c : Core F m mem H) (hx : RB F m H x v) (hy : RB F m H y u) (e : f x y = some (.bl b))
    (h : ∀ F' m' H', Step F m H F' m' H' → Core F' m' mem H' → Q (.bl b) H') : r v u H Q := by
  refine hr (xr := xr) (w := w) c hx hy ?_
  rw [e]
  intro v' F' m' H' st c' hv
  have e : v' = .bl b := by simpa [PF, VD] using hv
  subst e
  exact h F' m' H' st c'
theorem chain_of {op op' : CmpOp} {o o' : Cop} {p : Pm} {x y z : E} {r r' : R2}
    (hr : ∀ {F m mem H xr w Q x y v u}, Core F m mem H → RB F m H x v → RB F m H y u → Res xr PF F m H w Q (R.of (cmpB o x y) mem) → r v u H Q)
    (hr' : ∀ {F m mem H xr w Q x y v u}, Core F m mem H → RB F m H x v → RB F m H y u → Res xr PF F m H w Q (R.of (cmpB o' x y) mem) → r' v u H Q) {σ : L2.St} {Q : V → Hp → Prop}
    (h : tF p (.chain o o' x y z) σ H Q) : tChain r r' (tR p x) (tR p y) (tR p z) σ H Q := by
  have h : tG p PF (fun sl m => (rdV sl x m (ev p.v x sl m)).bind fun dx m => (rdV sl y m (ev p.v y sl m)).bind fun dy m => match cmpD o (deref m dx) (deref m dy) with
      | some true => (rdV sl z m (ev p.v z sl m)).bind fun dz m => R.of ((cmpD o' (deref m dy) (deref m dz)).map .bl) m
      | some false => .ok (.bl false) m
      | none => .stuck) σ H Q := by
    have h2 : tG p PF (fun sl m => ev p.v _ sl m) σ H Q := h
    simp only [ev] at h2
    exact h2
  refine (tG.bind (P := PR) PF.anti h).mono fun v H1 ⟨F1, m1, sl1, mem1, dx, H0, c1, s1, v1, r1⟩ => ?_
  refine ⟨F1, m1, sl1, mem1, c1, s1, (Res.bind (P := PR) (P2 := PF) PF.anti r1).mono fun u H2 ⟨F2, m2, dy, mem2, st, c2, u2, _, r2⟩ => ?_⟩
  have b1 := RB.of c2 (PR.step (H0' := H0) st v1)
  have b2 := RB.of c2 u2
  cases e : cmpD o (deref mem2 dx) (deref mem2 dy) with
  | none => rw [e] at r2; exact r2.elim
  | some b =>
    rw [e] at r2
    refine Ok2.of_known (xr := p.xr) (w := fun _ _ _ => False) hr c2 b1 b2 (b := b) (by show (cmpD o _ _).map _ = _; rw [e]; rfl) fun F3 m3 H3 st3 c3 => ⟨b, rfl, ?_⟩
    cases b with
    | false => rw [if_neg Bool.false_ne_true]; exact r2 _ _ _ _ st3 c3 (by simp [PF, VD])
    | true =>
      rw [if_pos rfl]
      have r3 := Res.step (P := PF) PF.anti st3 r2
      refine ⟨F3, m3, sl1, mem2, c3, (s1.step st).step st3, (Res.bind (P := PR) (P2 := PF) PF.anti r3).mono fun w' H4 ⟨F4, m4, dz, mem4, st4, c4, w4, _, r4⟩ => ?_⟩
      exact hr' c4 (RB.of c4 (PR.step (H0' := H0) st4 (PR.step (H0' := H0) st3 u2))) (RB.of c4 w4) r4
theorem pe_chain2 {op op' : CmpOp} {o o' : Cop} {a b c : Expr} {pos : Pos} {p : Pm} {x y z : E} (ok : Ok2 X (compareOp op) (cmpB o)) (ok' : Ok2 X (compareOp op') (cmpB o')) (ha : PE X a (tR p x)) (hb : PE X b (tR p y)) (hc : PE X c (tR p z))
    (hm : lastMarks [op, op'] [b, c] = false) : PE X (.Compare a [op, op'] [b, c] pos) (tF p (.chain o o' x y z)) := by
  obtain ⟨r, ho, hr⟩ := ok
  obtain ⟨r', ho', hr'⟩ := ok'
  exact weakE (pe_chain ho ho' ha hb hc hm) fun σ H Q h => chain_of (op := op) (op' := op') (fun c h1 h2 h3 => hr c h1 h2 h3) (fun c h1 h2 h3 => hr' c h1 h2 h3) h
theorem pt_chain2 {op op' : CmpOp} {o o' : Cop} {a b c : Expr} {pos : Pos} {p : Pm} {x y z : E} (ok : Ok2 X (compareOp op) (cmpB o)) (ok' : Ok2 X (compareOp op') (cmpB o')) (ha : PE X a (tR p x)) (hb : PE X b (tR p y)) (hc : PE X c (tR p z))
    (hm : lastMarks [op, op'] [b, c] = false) : PT X (.Compare a [op, op'] [b, c] pos) (tT p (.chain o o' x y z)) := by
  obtain ⟨r, ho, hr⟩ := ok
  obtain ⟨r', ho', hr'⟩ := ok'
  exact weakT (pt_chain ho ho' ha hb hc hm) fun σ H Q h => chain_of (op := op) (op' := op') (fun c h1 h2 h3 => hr c h1 h2 h3) (fun c h1 h2 h3 => hr' c h1 h2 h3) (T_of_F h)

/-! ### and, or, not, if -/
theorem and_of {p : Pm} {x y : E} {α β : Type} {P : Rl α β} (hP : Anti P) {g : D → Mem → R α} {σ : L2.St} {Q : β → Hp → Prop}
    (h : tG p P (fun sl m => (ev p.v (.and x y) sl m).bind g) σ H Q) :
    tT p x σ H fun c H1 => if c = true then tG p P (fun sl m => (ev p.v y sl m).bind g) σ H1 Q else ∃ F m mem, Core F m mem H1 ∧ Res p.xr P F m H1 (fun c d H' => p.W c d σ H') Q (g (.bl false) mem) := by
  obtain ⟨F, m, sl, mem, c, s, r⟩ := h
  refine ⟨F, m, sl, mem, c, s, ?_⟩
  simp only [ev] at r
  show Res p.xr PB F m H _ _ ((ev p.v x sl mem).bind asB)
  cases e : ev p.v x sl mem with
  | stuck => rw [e] at r; exact r.elim
  | exc q mem' => rw [e] at r; exact r
  | ok d mem' =>
    rw [e] at r
    cases d <;> first | exact r.elim | skip
    rename_i b
    intro b' F' m' H' st c' hb
    have hb : b = b' := hb
    subst hb
    cases b with
    | false => rw [if_neg Bool.false_ne_true]; exact ⟨F', m', mem', c', Res.step hP st r⟩
    | true => rw [if_pos rfl]; exact ⟨F', m', sl, mem', c', s.step st, Res.step hP st r⟩
theorem or_of {p : Pm} {x y : E} {α β : Type} {P : Rl α β} (hP : Anti P) {g : D → Mem → R α} {σ : L2.St} {Q : β → Hp → Prop}
    (h : tG p P (fun sl m => (ev p.v (.or x y) sl m).bind g) σ H Q) :
    tT p x σ H fun c H1 => if c = true then ∃ F m mem, Core F m mem H1 ∧ Res p.xr P F m H1 (fun c d H' => p.W c d σ H') Q (g (.bl true) mem) else tG p P (fun sl m => (ev p.v y sl m).bind g) σ H1 Q := by
  obtain ⟨F, m, sl, mem, c, s, r⟩ := h
  refine ⟨F, m, sl, mem, c, s, ?_⟩
  simp only [ev] at r
  show Res p.xr PB F m H _ _ ((ev p.v x sl mem).bind asB)
  cases e : ev p.v x sl mem with
  | stuck => rw [e] at r; exact r.elim
  | exc q mem' => rw [e] at r; exact r
  | ok d mem' =>
    rw [e] at r
    cases d <;> first | exact r.elim | skip
    rename_i b
    intro b' F' m' H' st c' hb
    have hb : b = b' := hb
    subst hb
    cases b with
    | true => rw [if_pos rfl]; exact ⟨F', m', mem', c', Res.step hP st r⟩
    | false => rw [if_neg Bool.false_ne_true]; exact ⟨F', m', sl, mem', c', s.step st, Res.step hP st r⟩
theorem ite_of {p : Pm} {x y z : E} {α β : Type} {P : Rl α β} (hP : Anti P) {g : D → Mem → R α} {σ : L2.St} {Q : β → Hp → Prop}
    (h : tG p P (fun sl m => (ev p.v (.ite x y z) sl m).bind g) σ H Q) :
    tT p x σ H fun c H1 => if c = true then tG p P (fun sl m => (ev p.v y sl m).bind g) σ H1 Q else tG p P (fun sl m => (ev p.v z sl m).bind g) σ H1 Q := by
  obtain ⟨F, m, sl, mem, c, s, r⟩ := h
  refine ⟨F, m, sl, mem, c, s, ?_⟩
  simp only [ev] at r
  show Res p.xr PB F m H _ _ ((ev p.v x sl mem).bind asB)
  cases e : ev p.v x sl mem with
  | stuck => rw [e] at r; exact r.elim
  | exc q mem' => rw [e] at r; exact r
  | ok d mem' =>
    rw [e] at r
    cases d <;> first | exact r.elim | skip
    rename_i b
    intro b' F' m' H' st c' hb
    have hb : b = b' := hb
    subst hb
    cases b with
    | true => rw [if_pos rfl]; exact ⟨F', m', sl, mem', c', s.step st, Res.step hP st r⟩
    | false => rw [if_neg Bool.false_ne_true]; exact ⟨F', m', sl, mem', c', s.step st, Res.step hP st r⟩
@[simp] theorem R.bind_ok {α : Type} (r : R α) : r.bind R.ok = r := by cases r <;> rfl
theorem g_ok {p : Pm} {x : E} {P : Rl D V} {σ : L2.St} {Q : V → Hp → Prop} : tG p P (fun sl m => (ev p.v x sl m).bind R.ok) σ H Q ↔ tG p P (ev p.v x) σ H Q := by
  simp only [R.bind_ok]
theorem pt_not2 {a : Expr} {pos : Pos} {p : Pm} {x : E} (ha : PT X a (tT p x)) : PT X (.UnaryOp .Not a pos) (tT p (.not x)) :=
  weakT (pt_not ha) fun σ H Q ⟨F, m, sl, mem, c, s, r⟩ => by
    refine ⟨F, m, sl, mem, c, s, ?_⟩
    simp only [ev] at r
    show Res p.xr PB F m H _ _ ((ev p.v x sl mem).bind asB)
    cases e : ev p.v x sl mem with
    | stuck => rw [e] at r; exact r.elim
    | exc q mem' => rw [e] at r; exact r
    | ok d mem' =>
      rw [e] at r
      cases d <;> first | exact r.elim | skip
      rename_i b
      intro b' F' m' H' st c' hb
      have hb : b = b' := hb
      subst hb
      exact r _ _ _ _ st c' rfl
theorem pw_and2 {a b : Expr} {rest : List Expr} {pos : Pos} {p : Pm} {x y : E} (ha : PT X a (tT p x)) (hb : PW X (.BoolOp .And (b :: rest) pos) (tT p y)) : PW X (.BoolOp .And (a :: b :: rest) pos) (tT p (.and x y)) :=
  weakW (pw_and ha hb) fun σ H Q h => (and_of PB.anti h).mono fun c H1 q => by
    cases c with
    | true => rw [if_pos rfl] at q ⊢; exact q
    | false =>
      rw [if_neg Bool.false_ne_true] at q ⊢
      obtain ⟨F, m, mem, c, r⟩ := q
      exact r _ _ _ _ Step.refl c rfl
theorem pw_or2 {a b : Expr} {rest : List Expr} {pos : Pos} {p : Pm} {x y : E} (ha : PT X a (tT p x)) (hb : PW X (.BoolOp .Or (b :: rest) pos) (tT p y)) : PW X (.BoolOp .Or (a :: b :: rest) pos) (tT p (.or x y)) :=
  weakW (pw_or ha hb) fun σ H Q h => (or_of PB.anti h).mono fun c H1 q => by
    cases c with
    | false => rw [if_neg Bool.false_ne_true] at q ⊢; exact q
    | true =>
      rw [if_pos rfl] at q ⊢
      obtain ⟨F, m, mem, c, r⟩ := q
      exact r _ _ _ _ Step.refl c rfl
/-- .. as values -/
theorem E_of_T {p : Pm} {x : E} {σ : L2.St} {Q : Bool → Hp → Prop} (h : tT p x σ H Q) : tE p x σ H fun v H' => ∃ c, v = .bl c ∧ Q c H' := T_of_E h
theorem pe_and2 {a b : Expr} {rest : List Expr} {pos : Pos} {p : Pm} {x y : E} (ha : PE X a (tE p x)) (hb : PE X (.BoolOp .And (b :: rest) pos) (tE p y)) : PE X (.BoolOp .And (a :: b :: rest) pos) (tE p (.and x y)) :=
  weakE (pe_and ha hb) fun σ H Q h => (E_of_T (and_of PV.anti (g_ok.mpr h))).mono fun v H1 ⟨c, e, q⟩ => by
    refine ⟨c, e, ?_⟩
    cases c with
    | true => rw [if_pos rfl] at q ⊢; exact g_ok.mp q
    | false =>
      rw [if_neg Bool.false_ne_true] at q ⊢
      obtain ⟨F, m, mem, c, r⟩ := q
      exact r _ _ _ _ Step.refl c (by simp [PV, VD])
theorem pe_or2 {a b : Expr} {rest : List Expr} {pos : Pos} {p : Pm} {x y : E} (ha : PE X a (tE p x)) (hb : PE X (.BoolOp .Or (b :: rest) pos) (tE p y)) : PE X (.BoolOp .Or (a :: b :: rest) pos) (tE p (.or x y)) :=
  weakE (pe_or ha hb) fun σ H Q h => (E_of_T (or_of PV.anti (g_ok.mpr h))).mono fun v H1 ⟨c, e, q⟩ => by
    refine ⟨c, e, ?_⟩
    cases c with
    | false => rw [if_neg Bool.false_ne_true] at q ⊢; exact g_ok.mp q
    | true =>
      rw [if_pos rfl] at q ⊢
      obtain ⟨F, m, mem, c, r⟩ := q
      exact r _ _ _ _ Step.refl c (by simp [PV, VD])
theorem pe_not2 {a : Expr} {pos : Pos} {p : Pm} {x : E} (ha : PE X a (tE p x)) : PE X (.UnaryOp .Not a pos) (tF p (.not x)) :=
  weakE (pe_not ha) fun σ H Q ⟨F, m, sl, mem, c, s, r⟩ => by
    refine ⟨F, m, sl, mem, c, s, ?_⟩
    simp only [ev] at r
    cases e : ev p.v x sl mem with
    | stuck => rw [e] at r; exact r.elim
    | exc q mem' => rw [e] at r; exact r
    | ok d mem' =>
      rw [e] at r
      cases d <;> first | exact r.elim | skip
      rename_i b
      intro v F' m' H' st c' hb
      have hb : v = .bl b := by simpa [PV, VD] using hb
      exact ⟨b, hb, r _ _ _ _ st c' (by simp [PF, VD])⟩
theorem pe_ite2 {c a b : Expr} {pos : Pos} {p : Pm} {x y z : E} {P : Rl D V} (hP : Anti P) (hc : PT X c (tT p x)) (ha : PE X a (tG p P (ev p.v y))) (hb : PE X b (tG p P (ev p.v z))) : PE X (.IfExp c a b pos) (tG p P (ev p.v (.ite x y z))) :=
  weakE (pe_ifExp hc ha hb) fun σ H Q h => (ite_of hP (g_ok.mpr h)).mono fun v H1 q => by
    cases v with
    | true => rw [if_pos rfl] at q ⊢; exact g_ok.mp q
    | false => rw [if_neg Bool.false_ne_true] at q ⊢; exact g_ok.mp q
theorem pe_neg2 {a : Expr} {pos : Pos} {p : Pm} {x : E} (ha : PE X a (tE p x)) : PE X (.UnaryOp .USub a pos) (tF p (.neg x)) :=
  weakE (pe_un un_neg ha) fun σ H Q h => by
    have h : tG p PF (fun sl m => (ev p.v x sl m).bind fun x m => match x with
      | .int i => .ok (.int (-i)) m
      | _ => .stuck) σ H Q := by
      have h2 : tG p PF (fun sl m => ev p.v _ sl m) σ H Q := h
      simp only [ev] at h2
      exact h2
    refine (tG.bind (P := PV) PF.anti (f := ev p.v x) h).mono fun v H1 ⟨F1, m1, sl1, mem1, d, H0, c1, s1, v1, r1⟩ => ?_
    cases d <;> first | exact r1.elim | skip
    rename_i i
    have e : v = .int i := by simpa [PV, VD] using v1
    exact ⟨i, e, end_int c1 r1⟩
end Lt

set_option Elab.async false
set_option linter.all false
set_option maxRecDepth 100000
set_option maxHeartbeats 4000000
/-! Lt7: arguments, displays, calls, what is walked, comprehensions. -/
namespace Lt
open PySem PySem.Spec PyProof.Rows L2
variable {F F' F1 F2 : Hp} {m m' m1 m2 : List Addr} {H H' H1 H2 B : Hp} {mem mem' mem1 mem2 : Mem} {X : Cx}

/-! ### stars -/
def noStar : Expr → Bool
  | .Starred .. => false
  | _ => true
theorem starEach_cons {e : Expr} {es : List Expr} {env : Env} (h : noStar e = true) : starEach (e :: es) env = (false, eval e env) :: starEach es env := by
  cases e <;> first | rfl | exact Bool.noConfusion h
theorem starEach_map {env : Env} : ∀ {es : List Expr}, es.all noStar = true → starEach es env = es.map fun e => (false, eval e env)
  | [], _ => rfl
  | e :: es, h => by
    simp only [List.all_cons, Bool.and_eq_true] at h
    rw [starEach_cons h.1, starEach_map h.2]
    rfl
theorem noAny {env : Env} {pos : Pos} {es : List Expr} (h : es.all noStar = true) : (backTo pos (starEach es env)).any (·.1) = false := by
  rw [starEach_map h]
  unfold backTo
  rw [List.any_map, List.any_map]
  induction es with
  | nil => rfl
  | cons e es ih =>
    simp only [List.all_cons, Bool.and_eq_true] at h
    rw [List.any_cons, ih h.2]
    rfl
theorem allNot {env : Env} {pos : Pos} {es : List Expr} (h : es.all noStar = true) : (backTo pos (starEach es env)).all (fun x => !x.1) = true := by
  rw [starEach_map h]
  unfold backTo
  rw [List.all_map, List.all_map]
  induction es with
  | nil => rfl
  | cons e es ih =>
    simp only [List.all_cons, Bool.and_eq_true] at h
    rw [List.all_cons, ih h.2]
    rfl

/-! ### argument lists -/
theorem pa_nil2 {p : Pm} : PA X [] (tAs p []) := weakA pa_nil fun σ H Q ⟨F, m, sl, mem, c, s, r⟩ => by
  simp only [evs] at r
  exact r _ _ _ _ Step.refl c VDs.nil
theorem pa_cons2 {e : Expr} {es : List Expr} {p : Pm} {x : E} {xs : List E} (hs : noStar e = true) (he : PE X e (tE p x)) (hes : PA X es (tAs p xs)) : PA X (e :: es) (tAs p (x :: xs)) :=
  weakA (pa_cons he hes (starEach_cons hs)) fun σ H Q h => by
    have h : tG p PVs (fun sl m => (ev p.v x sl m).bind fun d m => (evs p.v xs sl m).bind fun ds m => .ok (d :: ds) m) σ H Q := by
      have h2 : tG p PVs (fun sl m => evs p.v _ sl m) σ H Q := h
      simp only [evs] at h2
      exact h2
    refine (tG.bind (P := PV) PVs.anti (f := ev p.v x) h).mono fun v H1 ⟨F1, m1, sl1, mem1, d, H0, c1, s1, v1, r1⟩ => ?_
    refine ⟨F1, m1, sl1, mem1, c1, s1, (Res.bind (P := PVs) PVs.anti r1).mono fun us H2 ⟨F2, m2, ds, mem2, st, c2, u2, _, r2⟩ => ?_⟩
    exact r2 _ _ _ _ Step.refl c2 (VDs.cons (VD.step st v1) u2)
theorem pr_nil2 {p : Pm} : PA X [] (tRs p []) := weakA pa_nil fun σ H Q ⟨F, m, sl, mem, c, s, r⟩ => by
  simp only [evr] at r
  exact r _ _ _ _ Step.refl c .nil
theorem pr_cons2 {e : Expr} {es : List Expr} {p : Pm} {x : E} {xs : List E} (hs : noStar e = true) (he : PE X e (tR p x)) (hes : PA X es (tRs p xs)) : PA X (e :: es) (tRs p (x :: xs)) :=
  weakA (pa_cons he hes (starEach_cons hs)) fun σ H Q h => by
    have h : tG p PRs (fun sl m => (rdV sl x m (ev p.v x sl m)).bind fun d m => (evr p.v xs sl m).bind fun ds m => .ok (d :: ds) m) σ H Q := by
      have h2 : tG p PRs (fun sl m => evr p.v _ sl m) σ H Q := h
      simp only [evr] at h2
      exact h2
    refine (tG.bind (P := PR) PRs.anti h).mono fun v H1 ⟨F1, m1, sl1, mem1, d, H0, c1, s1, v1, r1⟩ => ?_
    refine ⟨F1, m1, sl1, mem1, c1, s1, (Res.bind (P := PRs) PRs.anti r1).mono fun us H2 ⟨F2, m2, ds, mem2, st, c2, u2, _, r2⟩ => ?_⟩
    exact r2 _ _ _ _ Step.refl c2 (.cons (PR.step st v1) u2)
/-- items with stars -/
abbrev tSs (p : Pm) (es : List E) : TA := tG p PVs (evS p.v es)
theorem ps_nil2 {p : Pm} : PA X [] (tSs p []) := weakA pa_nil fun σ H Q ⟨F, m, sl, mem, c, s, r⟩ => by
  simp only [evS] at r
  exact r _ _ _ _ Step.refl c VDs.nil
theorem evS_cons {v : Cv} {x : E} {xs : List E} {sl : Sl} (h : ∀ y, x ≠ .star y) : evS v (x :: xs) sl mem = (ev v x sl mem).bind fun d m => (evS v xs sl m).bind fun ds m => .ok (d :: ds) m := by
  cases x <;> first | (simp only [evS]; done) | exact absurd rfl (h _)
theorem ps_cons2 {e : Expr} {es : List Expr} {p : Pm} {x : E} {xs : List E} (hx : ∀ y, x ≠ .star y) (hs : noStar e = true) (he : PE X e (tE p x)) (hes : PA X es (tSs p xs)) : PA X (e :: es) (tSs p (x :: xs)) :=
  weakA (pa_cons he hes (starEach_cons hs)) fun σ H Q h => by
    have h : tG p PVs (fun sl m => (ev p.v x sl m).bind fun d m => (evS p.v xs sl m).bind fun ds m => .ok (d :: ds) m) σ H Q := by
      have h2 : tG p PVs (fun sl m => evS p.v _ sl m) σ H Q := h
      obtain ⟨F, m, sl, mem, c, s, r⟩ := h2
      exact ⟨F, m, sl, mem, c, s, by
        have r2 : Res p.xr PVs F m H (fun c d H' => p.W c d σ H') Q (evS p.v (x :: xs) sl mem) := r
        rw [evS_cons hx] at r2
        exact r2⟩
    refine (tG.bind (P := PV) PVs.anti (f := ev p.v x) h).mono fun v H1 ⟨F1, m1, sl1, mem1, d, H0, c1, s1, v1, r1⟩ => ?_
    refine ⟨F1, m1, sl1, mem1, c1, s1, (Res.bind (P := PVs) PVs.anti r1).mono fun us H2 ⟨F2, m2, ds, mem2, st, c2, u2, _, r2⟩ => ?_⟩
    exact r2 _ _ _ _ Step.refl c2 (VDs.cons (VD.step st v1) u2)
theorem ps_star2 {e : Expr} {es : List Expr} {pos : Pos} {p : Pm} {x : E} {xs : List E} (he : PE X e (tR p x)) (hes : PA X es (tSs p xs)) : PA X (.Starred e pos :: es) (tSs p (.star x :: xs)) :=
  weakA (StX.pa_star he hes) fun σ H Q h => by
    have h : tG p PVs (fun sl m => (rdV sl x m (ev p.v x sl m)).bind fun x m => match deref m x with
      | .lst ys => (evS p.v xs sl m).bind fun xs m => .ok (ys ++ xs) m
      | .tup ys => (evS p.v xs sl m).bind fun xs m => .ok (ys ++ xs) m
      | _ => .stuck) σ H Q := by
      have h2 : tG p PVs (fun sl m => evS p.v _ sl m) σ H Q := h
      simp only [evS] at h2
      exact h2
    refine (tG.bind (P := PR) PVs.anti h).mono fun v H1 ⟨F1, m1, sl1, mem1, d, H0, c1, s1, v1, r1⟩ => ?_
    have b := RB.of c1 v1
    cases e : deref mem1 d <;> rw [e] at r1 b <;> first | exact r1.elim | skip
    · obtain ⟨a, us, e1, h1, h2, _⟩ := rb_tup c1 b
      refine ⟨a, us, e1, .inl (SqT.of h1), F1, m1, sl1, mem1, c1, s1, (Res.bind (P := PVs) PVs.anti r1).mono fun ws H2 ⟨F2, m2, ds, mem2, st, c2, u2, _, r2⟩ => ?_⟩
      exact r2 _ _ _ _ Step.refl c2 (VDs.append (h2.step st) u2)
    · obtain ⟨a, us, e1, h1, h2⟩ := rb_lst b
      refine ⟨a, us, e1, .inr (SqL.of h1), F1, m1, sl1, mem1, c1, s1, (Res.bind (P := PVs) PVs.anti r1).mono fun ws H2 ⟨F2, m2, ds, mem2, st, c2, u2, _, r2⟩ => ?_⟩
      exact r2 _ _ _ _ Step.refl c2 (VDs.append (h2.step st) u2)

/-! ### displays -/
theorem small_len {n : Nat} (h : n ≤ 1000) : n ≤ sizeLine := by rw [sizeLine_eq]; omega
theorem evs_len {v : Cv} {sl : Sl} : ∀ {es : List E} {mem : Mem} {ds : List D} {mem' : Mem}, evs v es sl mem = .ok ds mem' → ds.length = es.length
  | [], mem, ds, mem', h => by simp only [evs] at h; cases h; rfl
  | e :: es, mem, ds, mem', h => by
    simp only [evs] at h
    cases e1 : ev v e sl mem with
    | stuck => rw [e1] at h; cases h
    | exc q n => rw [e1] at h; cases h
    | ok d n =>
      rw [e1] at h
      simp only [R.bind] at h
      cases e2 : evs v es sl n with
      | stuck => rw [e2] at h; cases h
      | exc q n => rw [e2] at h; cases h
      | ok r n' =>
        rw [e2] at h
        cases h
        rw [List.length_cons, List.length_cons, evs_len e2]
theorem pe_tup2 {es : List Expr} {k : Nat} {pos : Pos} {p : Pm} {xs : List E} (hl : xs.length ≤ 1000) (h : PA X es (tAs p xs)) : PE X (.Tuple es k pos) (tF p (.tup xs)) :=
  weakE (pe_tup h) fun σ H Q h => by
    obtain ⟨F, m, sl, mem, c, s, r⟩ := h
    simp only [ev] at r
    refine ⟨F, m, sl, mem, c, s, (Res.bind (P := PVs) PF.anti r).mono fun us H1 ⟨F1, m1, ds, mem1, st, c1, u1, e, r1⟩ => ?_⟩
    exact ⟨by rw [← VDs.length u1, evs_len e]; exact small_len hl, end_tup c1 u1 r1⟩
theorem pe_lst2 {es : List Expr} {pos : Pos} {p : Pm} {xs : List E} (hl : xs.length ≤ 1000) (h : PA X es (tAs p xs)) : PE X (.List es pos) (tF p (.lst xs)) :=
  weakE (pe_lst h) fun σ H Q h => by
    obtain ⟨F, m, sl, mem, c, s, r⟩ := h
    simp only [ev] at r
    refine ⟨F, m, sl, mem, c, s, (Res.bind (P := PVs) PF.anti r).mono fun us H1 ⟨F1, m1, ds, mem1, st, c1, u1, e, r1⟩ => ?_⟩
    exact ⟨by rw [← VDs.length u1, evs_len e]; exact small_len hl, end_lst c1 u1 r1⟩
theorem pe_tupS2 {es : List Expr} {k : Nat} {pos : Pos} {p : Pm} {xs : List E} (h : PA X es (tSs p xs)) : PE X (.Tuple es k pos) (tF p (.tupS xs)) :=
  weakE (pe_tup h) fun σ H Q h => by
    obtain ⟨F, m, sl, mem, c, s, r⟩ := h
    simp only [ev] at r
    refine ⟨F, m, sl, mem, c, s, (Res.bind (P := PVs) PF.anti r).mono fun us H1 ⟨F1, m1, ds, mem1, st, c1, u1, e, r1⟩ => ?_⟩
    by_cases hl : ds.length ≤ LIM
    · rw [if_pos hl] at r1
      exact ⟨by rw [LIM_eq, ← VDs.length u1]; exact hl, end_tup c1 u1 r1⟩
    · rw [if_neg hl] at r1; exact r1.elim
theorem pe_lstS2 {es : List Expr} {pos : Pos} {p : Pm} {xs : List E} (h : PA X es (tSs p xs)) : PE X (.List es pos) (tF p (.lstS xs)) :=
  weakE (pe_lst h) fun σ H Q h => by
    obtain ⟨F, m, sl, mem, c, s, r⟩ := h
    simp only [ev] at r
    refine ⟨F, m, sl, mem, c, s, (Res.bind (P := PVs) PF.anti r).mono fun us H1 ⟨F1, m1, ds, mem1, st, c1, u1, e, r1⟩ => ?_⟩
    by_cases hl : ds.length ≤ LIM
    · rw [if_pos hl] at r1
      exact ⟨by rw [LIM_eq, ← VDs.length u1]; exact hl, end_lst c1 u1 r1⟩
    · rw [if_neg hl] at r1; exact r1.elim

/-! ### subscripts, slices -/
theorem pe_idx2 {a b : Expr} {pos : Pos} {p : Pm} {x y : E} (hb' : PlainIx b) (ha : PE X a (tR p x)) (hb : PE X b (tE p y)) : PE X (.Subscript a b pos) (tE p (.idx x y)) := by
  obtain ⟨r, ho, hr⟩ := ok_idx (X := X)
  exact weakE (pe_ix ho ha hb hb') fun σ H Q h => by
    have h : tG p PV (fun sl m => (rdV sl x m (ev p.v x sl m)).bind fun x m => (ev p.v y sl m).bind fun y m => R.of (idxD (deref m x) y) m) σ H Q := by
      have h2 : tG p PV (fun sl m => ev p.v _ sl m) σ H Q := h
      simp only [ev] at h2
      exact h2
    refine (tG.bind (P := PR) PV.anti h).mono fun v H1 ⟨F1, m1, sl1, mem1, d, H0, c1, s1, v1, r1⟩ => ?_
    refine ⟨F1, m1, sl1, mem1, c1, s1, (Res.bind (P := PV) PV.anti r1).mono fun u H2 ⟨F2, m2, e, mem2, st, c2, u2, _, r2⟩ => ?_⟩
    exact hr c2 (RB.of c2 (PR.step (H0' := H0) st v1)) u2 r2
def PO2 : Rl (Option Int) (Option Int) := fun _ _ _ _ a b => a = b
theorem PO2.anti : Anti PO2 := ⟨fun _ h => h⟩
abbrev tO (p : Pm) (e : E) : TO := tG p PO2 fun sl m => optV e m (ev p.v e sl m)
theorem po_some2 {a : Expr} {p : Pm} {x : E} (hx : x ≠ .omit) (ha : PE X a (tE p x)) : PO X (some a) (tO p x) := by
  refine ⟨fun pins s σ H Q I h => (po_some ha).run pins s σ H Q I ?_⟩
  obtain ⟨F, m, sl, mem, c, s, r⟩ := h
  have e : optV x mem (ev p.v x sl mem) = (ev p.v x sl mem).bind fun x m => match x with
    | .int i => .ok (some i) m
    | _ => .stuck := by
    cases x <;> first | rfl | exact absurd rfl hx
  have r' : Res p.xr PO2 F m H (fun c d H' => p.W c d σ H') Q (optV x mem (ev p.v x sl mem)) := r
  rw [e] at r'
  refine ⟨F, m, sl, mem, c, s, (Res.bind (P := PV) PO2.anti r').mono fun v H1 ⟨F1, m1, d, mem1, st, c1, v1, e0, r1⟩ => ?_⟩
  cases d <;> first | exact r1.elim | skip
  rename_i i
  have e : v = .int i := by simpa [PV, VD] using v1
  exact ⟨i, e, r1 _ _ _ _ Step.refl c1 rfl⟩
theorem po_none2 {p : Pm} : PO X none (tO p .omit) := by
  refine ⟨fun pins s σ H Q I h => po_none.run pins s σ H Q I ?_⟩
  obtain ⟨F, m, sl, mem, c, s, r⟩ := h
  exact r _ _ _ _ Step.refl c rfl
theorem pe_slc2 {a : Expr} {lo hi : Option Expr} {pos p2 : Pos} {p : Pm} {x y z : E} (ha : PE X a (tR p x)) (hl : PO X lo (tO p y)) (hh : PO X hi (tO p z)) : PE X (.Subscript a (.Slice lo hi none p2) pos) (tF p (.slc x y z)) := by
  obtain ⟨r, ho, hr⟩ := ok_slc (X := X)
  exact weakE (pe_slice ho ha hl hh) fun σ H Q h => by
    have h : tG p PF (fun sl m => (rdV sl x m (ev p.v x sl m)).bind fun x m => (optV y m (ev p.v y sl m)).bind fun l m => (optV z m (ev p.v z sl m)).bind fun h m => R.of (slcD (deref m x) l h) m) σ H Q := by
      have h2 : tG p PF (fun sl m => ev p.v _ sl m) σ H Q := h
      simp only [ev] at h2
      exact h2
    refine (tG.bind (P := PR) PF.anti h).mono fun v H1 ⟨F1, m1, sl1, mem1, d, H0, c1, s1, v1, r1⟩ => ?_
    refine ⟨F1, m1, sl1, mem1, c1, s1, (Res.bind (P := PO2) PF.anti r1).mono fun l H2 ⟨F2, m2, e, mem2, st, c2, u2, _, r2⟩ => ?_⟩
    refine ⟨F2, m2, sl1, mem2, c2, s1.step st, (Res.bind (P := PO2) PF.anti r2).mono fun u H3 ⟨F3, m3, e3, mem3, st3, c3, u3, _, r3⟩ => ?_⟩
    have e1 : e = l := u2
    have e2 : e3 = u := u3
    subst e1 e2
    exact hr c3 (RB.of c3 (PR.step (H0' := H0) st3 (PR.step (H0' := H0) st v1))) r3

/-! ### calls -/
theorem pe_blt2 {id : String} {b : Blt} {x : Str} {e : Expr} {es : List Expr} {q pos : Pos} {p : Pm} {xs : List E} (ok : OkC X (.builtin id) (bltD b)) (hg : Gl X x) (hm : X.mg x = none) (hv : bootBuiltins x = some (.builtin id))
    (hn : x ≠ "__name__") (hdb : (x == ("__debug__" : Str)) = false) (hs : (e :: es).all noStar = true) (ha : PA X (e :: es) (tRs p xs)) : PE X (.Call (.Name x q) (e :: es) [] pos) (tF p (.blt b xs)) := by
  obtain ⟨r, ho, hr⟩ := ok
  simp only [List.all_cons, Bool.and_eq_true] at hs
  exact weakE (pe_callB ho hg hm hv ha hn hdb (starEach_cons hs.1) (noAny hs.2)) fun σ H Q h => by
    obtain ⟨F, m, sl, mem, c, s, r⟩ := h
    simp only [ev] at r
    refine ⟨F, m, sl, mem, c, s, (Res.bind (P := PRs) PF.anti r).mono fun us H1 ⟨F1, m1, ds, mem1, st, c1, u1, e, r1⟩ => ?_⟩
    exact hr c1 (RBs.of c1 u1) r1
theorem pe_bltT2 {id : String} {b : Blt} {x : Str} {e : Expr} {es : List Expr} {q pos : Pos} {p : Pm} {xs : List E} (ok : OkC X (.type id) (bltD b)) (hg : Gl X x) (hm : X.mg x = none) (hv : bootBuiltins x = some (.type id))
    (hn : x ≠ "__name__") (hdb : (x == ("__debug__" : Str)) = false) (hs : (e :: es).all noStar = true) (ha : PA X (e :: es) (tRs p xs)) : PE X (.Call (.Name x q) (e :: es) [] pos) (tF p (.blt b xs)) := by
  obtain ⟨r, ho, hr⟩ := ok
  simp only [List.all_cons, Bool.and_eq_true] at hs
  exact weakE (pe_callTy ho hg hm hv ha hn hdb (starEach_cons hs.1) (noAny hs.2)) fun σ H Q h => by
    obtain ⟨F, m, sl, mem, c, s, r⟩ := h
    simp only [ev] at r
    refine ⟨F, m, sl, mem, c, s, (Res.bind (P := PRs) PF.anti r).mono fun us H1 ⟨F1, m1, ds, mem1, st, c1, u1, e, r1⟩ => ?_⟩
    exact hr c1 (RBs.of c1 u1) r1
theorem pe_mth2 {id T : String} {name : Str} {b : Mth} {o e : Expr} {es : List Expr} {apos pos : Pos} {p : Pm} {x : E} {xs : List E} (pa : PlainAttrs T) (slot : Slot T name id) (hty : typeOf (.builtin id) = pure (.type "method_descriptor"))
    (ok : OkM X T id (mthD b)) (hty2 : ∀ {F m H x v}, RB F m H x v → mthT b x = true → tyV X.K T v H) (hbase : attributeBase o name X.env (eval o X.env) = eval o X.env) (hline : (apos.endLine == pos.line) = true) (hl : es.length < 20) (hs : (e :: es).all noStar = true) (ho' : PE X o (tR p x)) (ha : PA X (e :: es) (tRs p xs)) :
    PE X (.Call (.Attribute o name apos) (e :: es) [] pos) (tF p (.mth b x xs)) := by
  obtain ⟨r, ho, hr⟩ := ok
  have hs' := hs
  simp only [List.all_cons, Bool.and_eq_true] at hs'
  refine weakE (pe_bm pa slot hty ho ho' ha hbase ?_ hline (starEach_cons hs'.1) (noAny hs'.2)) fun σ H Q h => ?_
  · rw [allNot hs]
    show (true && true && decide ((e :: es).length + 0 + 0 < 30)) = true
    simp only [Bool.and_eq_true, decide_eq_true_eq, List.length_cons]
    exact ⟨⟨trivial, trivial⟩, by omega⟩
  · have h : tG p PF (fun sl m => (rdV sl x m (ev p.v x sl m)).bind fun x m => if mthT b (deref m x) = false then .stuck else (evr p.v xs sl m).bind fun ds m => R.of (mthD b (deref m x) (ds.map (deref m))) m) σ H Q := by
      have h2 : tG p PF (fun sl m => ev p.v _ sl m) σ H Q := h
      simp only [ev] at h2
      exact h2
    refine (tG.bind (P := PR) PF.anti h).mono fun v H1 ⟨F1, m1, sl1, mem1, d, H0, c1, s1, v1, r1⟩ => ?_
    cases ht : mthT b (deref mem1 d) with
    | false => rw [ht] at r1; exact r1.elim
    | true =>
      rw [ht] at r1
      have r1' : Res p.xr PF F1 m1 H1 (fun c d H' => p.W c d σ H') Q ((evr p.v xs sl1 mem1).bind fun ds m => R.of (mthD b (deref m d) (ds.map (deref m))) m) := r1
      refine ⟨hty2 (RB.of c1 v1) ht, F1, m1, sl1, mem1, c1, s1, (Res.bind (P := PRs) PF.anti r1').mono fun us H2 ⟨F2, m2, ds, mem2, st, c2, u2, _, r2⟩ => ?_⟩
      exact hr c2 (RB.of c2 (PR.step (H0' := H0) st v1)) (RBs.of c2 u2) r2
end Lt

set_option Elab.async false
set_option linter.all false
set_option maxRecDepth 100000
set_option maxHeartbeats 4000000
/-! Lt8: targets, what is walked, comprehensions, calls of defs, isinstance. -/
namespace Lt
open PySem PySem.Spec PyProof.Rows L2
variable {F F' F1 F2 : Hp} {m m' m1 m2 : List Addr} {H H' H1 H2 B : Hp} {mem mem' mem1 mem2 : Mem} {X : Cx}

/-! ### slots, stored -/
theorem getS_lt {sl : Sl} {i : Nat} (h : getS sl i ≠ .no) : i < sl.length := by
  induction sl generalizing i with
  | nil => exact absurd rfl h
  | cons v r ih =>
    cases i with
    | zero => exact Nat.zero_lt_succ _
    | succ i => exact Nat.succ_lt_succ (ih h)
theorem getS_setS {sl : Sl} {i j : Nat} {w : SV} : getS (setS sl i w) j = if j = i ∧ i < sl.length then w else getS sl j := by
  induction sl generalizing i j with
  | nil => simp
  | cons v r ih =>
    cases i with
    | zero => cases j <;> simp
    | succ i =>
      cases j with
      | zero => simp
      | succ j => simp [ih]
theorem setS_length {sl : Sl} {i : Nat} {w : SV} : (setS sl i w).length = sl.length := by
  induction sl generalizing i with
  | nil => rfl
  | cons v r ih =>
    cases i with
    | zero => rfl
    | succ i => simp [ih]
theorem set_get {α : Type} {l : List α} {i j : Nat} {x : α} : (l.set i x)[j]? = if j = i ∧ i < l.length then some x else l[j]? := by
  by_cases h : j = i
  · subst h
    by_cases hl : j < l.length
    · rw [List.getElem?_set_self hl, if_pos ⟨rfl, hl⟩]
    · rw [if_neg (fun z => hl z.2), List.getElem?_eq_none (by rw [List.length_set]; omega), List.getElem?_eq_none (by omega)]
  · rw [List.getElem?_set_ne (Ne.symm h), if_neg (fun z => h z.1)]
variable {xa : Option Addr} {sl : Sl} {σ : L2.St}
theorem Slots.set (s : Slots B F m H xa sl σ) {i : Nat} {d : D} {v : V} (h : VD F m d v) : Slots B F m H xa (setS sl i (.val d)) (σ.set i (some v)) := by
  refine ⟨by rw [setS_length, List.length_set]; exact s.len, fun j => ?_, fun j k d1 d2 a hjk h1 h2 h3 => ?_⟩
  · rw [getS_setS, set_get, s.len]
    split
    · exact ⟨v, rfl, h⟩
    · exact s.at_ j
  · rw [getS_setS] at h1 h2
    rw [set_get] at h3 ⊢
    rw [s.len] at h1 h2
    split at h1
    · cases h1
    · rename_i n1
      rw [if_neg n1] at h3
      split at h2
      · cases h2
      · rename_i n2
        rw [if_neg n2]
        exact s.one j k d1 d2 a hjk h1 h2 h3
theorem wipe_get {vs : List Nat} {j : Nat} : (wipe σ vs)[j]? = if j ∈ vs then σ[j]?.map fun _ => none else σ[j]? := by
  induction vs with
  | nil => simp [wipe]
  | cons v vs ih =>
    unfold wipe
    rw [set_get, wipe_length, ih]
    by_cases e : j = v
    · subst e
      by_cases hl : j < σ.length
      · rw [if_pos ⟨rfl, hl⟩, if_pos List.mem_cons_self, List.getElem?_eq_getElem hl]; rfl
      · rw [if_neg (fun z => hl z.2), if_pos List.mem_cons_self, List.getElem?_eq_none (by omega)]; simp
    · rw [if_neg (fun z => e z.1)]
      by_cases hm : j ∈ vs
      · rw [if_pos hm, if_pos (List.mem_cons_of_mem _ hm)]
      · rw [if_neg hm, if_neg (by simp [e, hm])]
theorem wipe_set {vs : List Nat} {i : Nat} {x : Option V} (h : i ∈ vs) : wipe (σ.set i x) vs = wipe σ vs := by
  apply List.ext_getElem?
  intro j
  rw [wipe_get, wipe_get, set_get]
  by_cases hj : j ∈ vs
  · rw [if_pos hj, if_pos hj]
    split
    · rename_i z
      rw [z.1, List.getElem?_eq_getElem z.2]; rfl
    · rfl
  · rw [if_neg hj, if_neg hj]
    split
    · rename_i z
      rw [z.1] at hj
      exact absurd h hj
    · rfl

/-! ### targets -/
mutual
def gT (K : PySem.W.Frag) : T → TG
  | .nm i => gName i
  | .tp ts => gTup K ts.length (gTs K ts)
def gTs (K : PySem.W.Frag) : List T → TGs
  | [] => gNil
  | t :: ts => gCons (gT K t) (gTs K ts)
end
mutual
def idxT : T → List Nat
  | .nm i => [i]
  | .tp ts => idxTs ts
def idxTs : List T → List Nat
  | [] => []
  | t :: ts => idxT t ++ idxTs ts
end
mutual
theorem gT_ok (K : PySem.W.Frag) : ∀ (t : T) (d : D) (v : V) (sl sl' : Sl) (σ : L2.St) (Q : L2.St → Hp → Prop), Core F m mem H → VD F m d v → Slots B F m H xa sl σ → tgt t d sl = some sl' →
    (∀ σ', Slots B F m H xa sl' σ' → (∀ vs, (∀ i ∈ idxT t, i ∈ vs) → wipe σ' vs = wipe σ vs) → Q σ' H) → gT K t v σ H Q
  | .nm i, d, v, sl, sl', σ, Q, c, hv, s, e, q => by
    simp only [tgt, Option.some.injEq] at e
    subst e
    simp only [gT, gName]
    exact q _ (s.set hv) fun vs hm => wipe_set (hm i (by simp [idxT]))
  | .tp ts, d, v, sl, sl', σ, Q, c, hv, s, e, q => by
    cases d <;> first | (simp only [tgt] at e; cases e; done) | skip
    rename_i xs
    simp only [tgt] at e
    simp only [VD] at hv
    obtain ⟨a, vs, rfl, h1, h2⟩ := hv
    simp only [gT, gTup]
    have hl : ts.length = xs.length := tgts_len ts xs sl sl' e
    refine ⟨a, vs, rfl, SqT.of (c.sub _ _ h1), by rw [hl, h2.length], gTs_ok K ts xs vs sl sl' σ Q c h2 s e fun σ' s' hw => q σ' s' fun ws hm => hw ws fun i hi => hm i (by simpa [idxT] using hi)⟩
theorem gTs_ok (K : PySem.W.Frag) : ∀ (ts : List T) (d : List D) (v : List V) (sl sl' : Sl) (σ : L2.St) (Q : L2.St → Hp → Prop), Core F m mem H → VDs F m d v → Slots B F m H xa sl σ → tgts ts d sl = some sl' →
    (∀ σ', Slots B F m H xa sl' σ' → (∀ vs, (∀ i ∈ idxTs ts, i ∈ vs) → wipe σ' vs = wipe σ vs) → Q σ' H) → gTs K ts v σ H Q
  | [], d, v, sl, sl', σ, Q, c, hv, s, e, q => by
    cases d with
    | cons _ _ => simp only [tgts] at e; cases e
    | nil =>
      simp only [tgts, Option.some.injEq] at e
      subst e
      simp only [VDs] at hv
      subst hv
      simp only [gTs, gNil]
      exact ⟨trivial, q σ s fun _ _ => rfl⟩
  | t :: ts, d, v, sl, sl', σ, Q, c, hv, s, e, q => by
    cases d with
    | nil => simp only [tgts] at e; cases e
    | cons x xs =>
      simp only [tgts, Option.bind_eq_some_iff] at e
      obtain ⟨sl1, e1, e2⟩ := e
      simp only [VDs] at hv
      obtain ⟨w, ws, rfl, h1, h2⟩ := hv
      simp only [gTs, gCons]
      refine ⟨w, ws, rfl, gT_ok K t x w sl sl1 σ _ c h1 s e1 fun σ' s' hw => gTs_ok K ts xs ws sl1 sl' σ' Q c h2 s' e2 fun σ2 s2 hw2 => q σ2 s2 fun vs hm => ?_⟩
      rw [hw2 vs fun i hi => hm i (by simp [idxTs, hi]), hw vs fun i hi => hm i (by simp [idxTs, hi])]
theorem tgts_len : ∀ (ts : List T) (d : List D) (sl sl' : Sl), tgts ts d sl = some sl' → ts.length = d.length
  | [], d, sl, sl', e => by
    cases d with
    | cons _ _ => simp only [tgts] at e; cases e
    | nil => rfl
  | t :: ts, d, sl, sl', e => by
    cases d with
    | nil => simp only [tgts] at e; cases e
    | cons x xs =>
      simp only [tgts, Option.bind_eq_some_iff] at e
      obtain ⟨sl1, _, e2⟩ := e
      rw [List.length_cons, List.length_cons, tgts_len ts xs sl1 sl' e2]
end
mutual
def chkT (N : List Str) (loc : Str → Bool) : T → Expr → Bool
  | .nm i, e => match e with
    | .Name x _ => decide (N[i]? = some x) && loc x
    | _ => false
  | .tp ts, e => match e with
    | .Tuple es _ _ => chkTs N loc ts es
    | _ => false
def chkTs (N : List Str) (loc : Str → Bool) : List T → List Expr → Bool
  | [], es => es.isEmpty
  | t :: ts, es => match es with
    | e :: es => chkT N loc t e && chkTs N loc ts es
    | [] => false
end
theorem chkT_noStar {N : List Str} {loc : Str → Bool} {t : T} {e : Expr} (h : chkT N loc t e = true) : noStar e = true := by
  cases t <;> cases e <;> first | rfl | (simp [chkT] at h; done)
theorem assignEach_cons {e : Expr} {es : List Expr} {env : Env} (h : noStar e = true) : assignEach (e :: es) env = (false, assign e env) :: assignEach es env := by
  cases e <;> first | rfl | exact Bool.noConfusion h
theorem chkTs_map {N : List Str} {loc : Str → Bool} {env : Env} : ∀ {ts : List T} {es : List Expr}, chkTs N loc ts es = true → (assignEach es env).length = ts.length ∧ (assignEach es env).findIdx? (·.1) = none
  | [], es, h => by
    simp only [chkTs, List.isEmpty_iff] at h
    subst h
    exact ⟨rfl, rfl⟩
  | t :: ts, es, h => by
    cases es with
    | nil => simp [chkTs] at h
    | cons e es =>
      simp only [chkTs, Bool.and_eq_true] at h
      obtain ⟨h1, h2⟩ := chkTs_map (env := env) h.2
      rw [assignEach_cons (chkT_noStar h.1)]
      refine ⟨by rw [List.length_cons, List.length_cons, h1], ?_⟩
      rw [List.findIdx?_cons]
      simp [h2]
mutual
theorem pg_ok {k : Ck} (hc : X.calm = true) (hN : X.N = k.N) (nd : X.N.Nodup) (hl : ∀ x, k.loc x = true → Loc X.env.scope x ∧ (X.fn x = true ∨ X.env.scope.names.lookup x = some .local)) : ∀ (t : T) (e : Expr), chkT k.N k.loc t e = true → PG X e (gT X.K t)
  | .nm i, e, h => by
    cases e <;> first | (simp [chkT] at h; done) | skip
    simp only [chkT, Bool.and_eq_true, decide_eq_true_eq] at h
    obtain ⟨l1, l2⟩ := hl _ h.2
    simp only [gT]
    exact pg_name nd (by rw [hN]; exact h.1) l1 l2
  | .tp ts, e, h => by
    cases e <;> first | (simp [chkT] at h; done) | skip
    simp only [chkT] at h
    obtain ⟨h1, h2⟩ := chkTs_map (env := X.env) h
    simp only [gT]
    exact pg_tup hc (pgs_ok hc hN nd hl ts _ h) h1 h2
theorem pgs_ok {k : Ck} (hc : X.calm = true) (hN : X.N = k.N) (nd : X.N.Nodup) (hl : ∀ x, k.loc x = true → Loc X.env.scope x ∧ (X.fn x = true ∨ X.env.scope.names.lookup x = some .local)) : ∀ (ts : List T) (es : List Expr), chkTs k.N k.loc ts es = true → PGs X es (gTs X.K ts)
  | [], es, h => by
    simp only [chkTs, List.isEmpty_iff] at h
    subst h
    simp only [gTs]
    exact pgs_nil
  | t :: ts, es, h => by
    cases es with
    | nil => simp [chkTs] at h
    | cons e es =>
      simp only [chkTs, Bool.and_eq_true] at h
      simp only [gTs]
      exact pgs_cons (pg_ok hc hN nd hl t e h.1) (pgs_ok hc hN nd hl ts es h.2) (by rw [assignEach_cons (chkT_noStar h.1)]; rfl)
end

/-! ### what is walked -/
/-- J yields the data ds, wherever the frozen part has grown from F -/
def ItD (J : It) (F : Hp) (m : List Addr) (ds : List D) : Prop := ∀ (i : Nat) (F1 : Hp) (m1 : List Addr) (mem1 : Mem) (H1 : Hp), (∀ a o, F a = some o → F1 a = some o) → (∃ new, m1 = m ++ new) → Core F1 m1 mem1 H1 →
  (i < ds.length → J.go i H1) ∧ (ds.length ≤ i → J.stop i H1) ∧ ∀ d x H2, ds[i]? = some d → J.yld i H1 x H2 → ∃ F2, Step F1 m1 H1 F2 m1 H2 ∧ Core F2 m1 mem1 H2 ∧ VD F2 m1 d x
def PIt : Rl (List D) It := fun _ F m _ ds J => ItD J F m ds ∧ ds.length ≤ LIM
theorem PIt.anti : Anti PIt := ⟨fun _ h => h⟩
abbrev tI (p : Pm) (e : E) : TI := tG p PIt fun sl m => (ev p.v e sl m).bind fun d m => R.of (itemsD d) m
theorem itl_ok {K : PySem.W.Frag} {a : Addr} {vs : List V} {xs : List D} (h : F a = some (.lst vs)) (hv : VDs F m xs vs) : ItD (Itl K a) F m xs := by
  intro i F1 m1 mem1 H1 hs hm c
  have q : SqL K H1 a vs := SqL.of (c.sub _ _ (hs _ _ h))
  have hv1 := VDs.mono hs hm _ _ hv
  refine ⟨fun hi => ?_, fun hi => ⟨vs, q, by rw [← hv.length]; exact hi⟩, fun d x H2 hd y => ?_⟩
  · have hi' : i < vs.length := by rw [← hv.length]; exact hi
    exact ⟨vs, vs[i], q, List.getElem?_eq_getElem hi'⟩
  · obtain ⟨rfl, y⟩ := y
    obtain ⟨w, e1, e2⟩ := hv1.get hd
    have := y vs q
    rw [e1] at this
    cases this
    exact ⟨F1, Step.refl, c, e2⟩
theorem itl_fro {K : PySem.W.Frag} {a : Addr} {o : Obj} {vs : List V} {xs : List D} (h : F a = some (.frz o (.lst vs))) (hv : VDs F m xs vs) (inj : ∀ H1, H1 a = some (.frz o (.lst vs)) → ∀ us, SqL K H1 a us → us = vs) : ItD (Itl K a) F m xs := by
  intro i F1 m1 mem1 H1 hs hm c
  have q : SqL K H1 a vs := .inl (.inr ⟨o, c.sub _ _ (hs _ _ h)⟩)
  have hv1 := VDs.mono hs hm _ _ hv
  refine ⟨fun hi => ?_, fun hi => ⟨vs, q, by rw [← hv.length]; exact hi⟩, fun d x H2 hd y => ?_⟩
  · have hi' : i < vs.length := by rw [← hv.length]; exact hi
    exact ⟨vs, vs[i], q, List.getElem?_eq_getElem hi'⟩
  · obtain ⟨rfl, y⟩ := y
    obtain ⟨w, e1, e2⟩ := hv1.get hd
    have := y vs q
    rw [e1] at this
    cases this
    exact ⟨F1, Step.refl, c, e2⟩
theorem itt_ok {K : PySem.W.Frag} {a : Addr} {vs : List V} {xs : List D} (h : F a = some (.tup vs)) (hv : VDs F m xs vs) : ItD (Itt K a) F m xs := by
  intro i F1 m1 mem1 H1 hs hm c
  have q : SqT K H1 a vs := SqT.of (c.sub _ _ (hs _ _ h))
  have hv1 := VDs.mono hs hm _ _ hv
  refine ⟨fun hi => ?_, fun hi => ⟨vs, q, by rw [← hv.length]; exact hi⟩, fun d x H2 hd y => ?_⟩
  · have hi' : i < vs.length := by rw [← hv.length]; exact hi
    exact ⟨vs, vs[i], q, List.getElem?_eq_getElem hi'⟩
  · obtain ⟨rfl, y⟩ := y
    obtain ⟨w, e1, e2⟩ := hv1.get hd
    have := y vs q
    rw [e1] at this
    cases this
    exact ⟨F1, Step.refl, c, e2⟩
theorem its_ok {s : List Nat} (h1 : ∀ c ∈ s, c < 1114112) : ItD (Its ⟨s.toArray⟩) F m (s.map fun c => .str [c]) := by
  intro i F1 m1 mem1 H1 hs hm c
  refine ⟨fun hi => ?_, fun hi => ?_, fun d x H2 hd y => ?_⟩
  · simpa [Its] using hi
  · simpa [Its] using hi
  · obtain ⟨rfl, k, e, rfl⟩ := y
    have e' : s[i]? = some k := by simpa using e
    rw [List.getElem?_map, e'] at hd
    cases hd
    refine ⟨F1, Step.refl, c, ?_⟩
    simp only [VD]
    refine ⟨by simp, fun z hz => ?_, by simp [LIM]⟩
    rw [List.mem_singleton] at hz
    subst hz
    exact h1 _ (List.mem_of_getElem? e')
theorem itr_ok {a b : Int} : ItD (Itr a (b - a).toNat) F m (rangeD a b) := by
  intro i F1 m1 mem1 H1 hs hm c
  have hl : (rangeD a b).length = (b - a).toNat := by simp [rangeD]
  refine ⟨fun hi => by rw [hl] at hi; exact hi, fun hi => by rw [hl] at hi; exact hi, fun d x H2 hd y => ?_⟩
  obtain ⟨rfl, rfl⟩ := y
  have hi : i < (b - a).toNat := by
    have := (List.getElem?_eq_some_iff.mp hd).1
    rw [hl] at this; exact this
  have e : d = .int (a + i) := by
    unfold rangeD at hd
    rw [List.getElem?_map, List.getElem?_range hi] at hd
    cases hd; rfl
  subst e
  exact ⟨F1, Step.refl, c, by simp [VD]⟩
theorem zipD_get : ∀ {xs ys : List D} {i : Nat} {d : D}, (zipD xs ys)[i]? = some d → ∃ x y, xs[i]? = some x ∧ ys[i]? = some y ∧ d = .tup [x, y]
  | [], _, i, d, h => by simp [zipD] at h
  | _ :: _, [], i, d, h => by simp [zipD] at h
  | x :: xs, y :: ys, 0, d, h => by simp [zipD] at h; exact ⟨x, y, rfl, rfl, h.symm⟩
  | x :: xs, y :: ys, i + 1, d, h => by
    obtain ⟨u, w, h1, h2, h3⟩ := zipD_get (xs := xs) (ys := ys) (i := i) (by simpa [zipD] using h)
    exact ⟨u, w, by simpa using h1, by simpa using h2, h3⟩
theorem zipD_len : ∀ {xs ys : List D}, (zipD xs ys).length = min xs.length ys.length
  | [], _ => by simp [zipD]
  | _ :: _, [] => by simp [zipD]
  | x :: xs, y :: ys => by simp [zipD, zipD_len]
theorem pair_step {T : Addr} {v w : V} {x y : D} (c : Core F m mem H) (hT : H T = none) (h1 : VD F m x v) (h2 : VD F m y w) : ∃ F2, Step F m H F2 m (upd H T (.tup [v, w])) ∧ Core F2 m mem (upd H T (.tup [v, w])) ∧ VD F2 m (.tup [x, y]) (.ref T) := by
  have st : Step F m H (upd F T (.tup [v, w])) m (upd H T (.tup [v, w])) := Step.new hT (c.freeF hT)
  refine ⟨_, st, c.step_new hT, ?_⟩
  simp only [VD]
  exact ⟨T, [v, w], rfl, upd_same, VDs.cons (h1.step st) (VDs.cons (h2.step st) VDs.nil)⟩
theorem itz_ok {K : PySem.W.Frag} {a b : Addr} {vs us : List V} {xs ys : List D} (ha : F a = some (.lst vs)) (hb : F b = some (.lst us)) (hv : VDs F m xs vs) (hu : VDs F m ys us) : ItD (Itz K a b) F m (zipD xs ys) := by
  intro i F1 m1 mem1 H1 hs hm c
  have q : SqL K H1 a vs := SqL.of (c.sub _ _ (hs _ _ ha))
  have r : SqL K H1 b us := SqL.of (c.sub _ _ (hs _ _ hb))
  have hv1 := VDs.mono hs hm _ _ hv
  have hu1 := VDs.mono hs hm _ _ hu
  rw [zipD_len, hv.length, hu.length]
  refine ⟨fun hi => ⟨vs, us, vs[i]'(by omega), us[i]'(by omega), q, r, List.getElem?_eq_getElem _, List.getElem?_eq_getElem _⟩, fun hi => ⟨vs, us, q, r, by omega⟩, fun d x H2 hd y => ?_⟩
  obtain ⟨T, x', y', rfl, hT, rfl, hx, hy⟩ := y
  obtain ⟨d1, d2, e1, e2, rfl⟩ := zipD_get hd
  obtain ⟨w1, f1, f2⟩ := hv1.get e1
  obtain ⟨w2, g1, g2⟩ := hu1.get e2
  have z1 := hx vs q
  have z2 := hy us r
  rw [f1] at z1
  rw [g1] at z2
  cases z1
  cases z2
  exact pair_step c hT f2 g2
theorem itzT_ok {K : PySem.W.Frag} {a b : Addr} {vs us : List V} {xs ys : List D} (ha : F a = some (.tup vs)) (hb : F b = some (.tup us)) (hv : VDs F m xs vs) (hu : VDs F m ys us) : ItD (RZ.ItzT K a b) F m (zipD xs ys) := by
  intro i F1 m1 mem1 H1 hs hm c
  have q : SqT K H1 a vs := SqT.of (c.sub _ _ (hs _ _ ha))
  have r : SqT K H1 b us := SqT.of (c.sub _ _ (hs _ _ hb))
  have hv1 := VDs.mono hs hm _ _ hv
  have hu1 := VDs.mono hs hm _ _ hu
  rw [zipD_len, hv.length, hu.length]
  refine ⟨fun hi => ⟨vs, us, vs[i]'(by omega), us[i]'(by omega), q, r, List.getElem?_eq_getElem _, List.getElem?_eq_getElem _⟩, fun hi => ⟨vs, us, q, r, by omega⟩, fun d x H2 hd y => ?_⟩
  obtain ⟨T, x', y', rfl, hT, rfl, hx, hy⟩ := y
  obtain ⟨d1, d2, e1, e2, rfl⟩ := zipD_get hd
  obtain ⟨w1, f1, f2⟩ := hv1.get e1
  obtain ⟨w2, g1, g2⟩ := hu1.get e2
  have z1 := hx vs q
  have z2 := hy us r
  rw [f1] at z1
  rw [g1] at z2
  cases z1
  cases z2
  exact pair_step c hT f2 g2
theorem enumD_get : ∀ {xs : List D} {k : Int} {i : Nat} {d : D}, (enumD k xs)[i]? = some d → ∃ x, xs[i]? = some x ∧ d = .tup [.int (k + i), x]
  | [], k, i, d, h => by simp [enumD] at h
  | x :: xs, k, 0, d, h => by simp [enumD] at h; exact ⟨x, rfl, by rw [← h]; simp⟩
  | x :: xs, k, i + 1, d, h => by
    obtain ⟨u, h1, h2⟩ := enumD_get (xs := xs) (k := k + 1) (i := i) (by simpa [enumD] using h)
    exact ⟨u, by simpa using h1, by rw [h2, show k + 1 + (i : Int) = k + ((i + 1 : Nat) : Int) by omega]⟩
theorem enumD_len : ∀ {xs : List D} {k : Int}, (enumD k xs).length = xs.length
  | [], k => rfl
  | x :: xs, k => by simp [enumD, enumD_len]
theorem ite_ok {K : PySem.W.Frag} {a : Addr} {vs : List V} {xs : List D} (ha : F a = some (.lst vs)) (hv : VDs F m xs vs) : ItD (Ite K a) F m (enumD 0 xs) := by
  intro i F1 m1 mem1 H1 hs hm c
  have q : SqL K H1 a vs := SqL.of (c.sub _ _ (hs _ _ ha))
  have hv1 := VDs.mono hs hm _ _ hv
  rw [enumD_len, hv.length]
  refine ⟨fun hi => ⟨vs, vs[i], q, List.getElem?_eq_getElem hi⟩, fun hi => ⟨vs, q, hi⟩, fun d x H2 hd y => ?_⟩
  obtain ⟨T, x', rfl, hT, rfl, hx⟩ := y
  obtain ⟨d1, e1, rfl⟩ := enumD_get hd
  obtain ⟨w1, f1, f2⟩ := hv1.get e1
  have z1 := hx vs q
  rw [f1] at z1
  cases z1
  have h0 : VD F1 m1 (.int (0 + (i : Int))) (.int (i : Nat)) := by simp [VD]
  exact pair_step c hT h0 f2
/-- a walk of a value that is a list, a tuple, a text -/
theorem tI_E {p : Pm} {x : E} {R : It → Hp → Prop} (h : tI p x σ H R) : tE p x σ H fun y H1 => ∃ F m mem d xs, Core F m mem H1 ∧ VD F m d y ∧ itemsD d = some xs ∧ ∀ J, ItD J F m xs → xs.length ≤ LIM → R J H1 := by
  refine (tG.bind (P := PV) PIt.anti (f := ev p.v x) h).mono fun y H1 ⟨F1, m1, sl1, mem1, d, H0, c1, s1, v1, r1⟩ => ?_
  cases e : itemsD d with
  | none => rw [e] at r1; exact r1.elim
  | some xs =>
    rw [e] at r1
    exact ⟨F1, m1, mem1, d, xs, c1, v1, e, fun J hJ hl => r1 J _ _ _ Step.refl c1 ⟨hJ, hl⟩⟩
theorem pi_any {tg e : Expr} {p : Pm} {x : E} (he : PE X e (tE p x)) : PI X tg e (tI p x) := by
  refine ⟨fun pins s σ H R I h => ?_⟩
  refine thn (he.run pins s σ H _ I (tI_E h)) fun v s1 ⟨y, H1, I1, r1, F, m, mem, d, xs, c, hv, hd, q⟩ => ?_
  cases d <;> first | (cases hd; done) | skip
  · -- text
    rename_i z
    simp only [VD] at hv
    obtain ⟨rfl, h1, hl⟩ := hv
    obtain ⟨t, rfl⟩ := r1
    cases hd
    have q' := q _ (its_ok (F := F) (m := m) h1) (by simpa using hl)
    cases ha : (⟨z.toArray⟩ : Str).cps.all (· < 128)
    · exact wpAny_pyIter_wide ha (pi_one (tk := s1.toks) I1 _ (turn_str _ _ t "str_iterator" (.inr rfl)) ⟨_, Heap.get?_push_size _ rfl, rfl, rfl⟩ q')
    · exact wpAny_pyIter_ascii ha (pi_one (tk := s1.toks) I1 _ (turn_str _ _ t "str_ascii_iterator" (.inl rfl)) ⟨_, Heap.get?_push_size _ rfl, rfl, rfl⟩ q')
  · -- tuple
    simp only [VD] at hv
    obtain ⟨a, vs, rfl, h1, h2⟩ := hv
    cases r1
    cases hd
    obtain ⟨its, rv, pl, hz⟩ := I1.tuple (SqT.of (c.sub _ _ h1))
    have q' := q _ (itt_ok (K := X.K) h1 h2) (by rw [h2.length, ← LIM_eq]; exact hz)
    exact wpAny_pyIter_tuple (show s1.heap.IsTuple a its.toArray from pl) (pi_one (tk := s1.toks) I1 _ (turn_tuple a _) ⟨_, Heap.get?_push_size _ rfl, rfl, rfl⟩ q')
  · -- list
    simp only [VD] at hv
    obtain ⟨a, vs, rfl, h1, h2⟩ := hv
    cases r1
    cases hd
    obtain ⟨its, rv, pl, hz⟩ := I1.list (SqL.of (c.sub _ _ h1))
    have q' := q _ (itl_ok (K := X.K) h1 h2) (by rw [h2.length, ← LIM_eq]; exact hz)
    exact wpAny_pyIter_list pl.isList (pi_one (tk := s1.toks) I1 _ (turn_list a _) ⟨_, Heap.get?_push_size _ rfl, rfl, rfl⟩ q')
  · -- the script
    simp only [VD] at hv
    obtain ⟨a, o, vs, rfl, h1, h2⟩ := hv
    cases r1
    cases hd
    have hq : SqL X.K H1 a vs := .inl (.inr ⟨o, c.sub _ _ h1⟩)
    obtain ⟨its, rv, pl, hz⟩ := I1.list hq
    have q' := q (Itl X.K a) (by
      intro i F1 m1 mem1 H2 hs hm c1
      have q : SqL X.K H2 a vs := .inl (.inr ⟨o, c1.sub _ _ (hs _ _ h1)⟩)
      have hv1 := VDs.mono hs hm _ _ h2
      refine ⟨fun hi => ?_, fun hi => ⟨vs, q, by rw [← h2.length]; exact hi⟩, fun d x H3 hd y => ?_⟩
      · have hi' : i < vs.length := by rw [← h2.length]; exact hi
        exact ⟨vs, vs[i], q, List.getElem?_eq_getElem hi'⟩
      · obtain ⟨rfl, y⟩ := y
        obtain ⟨w, e1, e2⟩ := hv1.get hd
        have := y vs q
        rw [e1] at this
        cases this
        exact ⟨F1, Step.refl, c1, e2⟩) (by rw [h2.length, ← LIM_eq]; exact hz)
    exact wpAny_pyIter_list pl.isList (pi_one (tk := s1.toks) I1 _ (turn_list a _) ⟨_, Heap.get?_push_size _ rfl, rfl, rfl⟩ q')
  · -- itr
    simp [VD] at hv
end Lt

set_option Elab.async false
set_option linter.all false
set_option maxRecDepth 100000
set_option maxHeartbeats 4000000
/-! Lt9: ranges, zip, enumerate; comprehensions; calls of defs; isinstance. -/
namespace Lt
open PySem PySem.Spec PyProof.Rows L2
variable {F F' F1 F2 : Hp} {m m' m1 m2 : List Addr} {H H' H1 H2 B : Hp} {mem mem' mem1 mem2 : Mem} {X : Cx}

theorem weakI {tg e : Expr} {t t' : TI} (h : PI X tg e t) (hh : ∀ σ H Q, t' σ H Q → t σ H Q) : PI X tg e t' := ⟨fun pins s σ H Q I q => h.run pins s σ H Q I (hh σ H Q q)⟩
theorem R.bind_assoc {α β γ : Type} (r : Lt.R α) (f : α → Mem → Lt.R β) (g : β → Mem → Lt.R γ) : (r.bind f).bind g = r.bind fun a m => (f a m).bind g := by cases r <;> rfl
theorem tE1 {e : Expr} {t : TE} (hs : noStar e = true) (he : PE X e t) : PA X [e] (tCons t tNil) := pa_cons he pa_nil (starEach_cons hs)
theorem pi_rng1 {tg a : Expr} {q pos : Pos} {p : Pm} {x : E} (hg : Gl X "range") (hm : X.mg "range" = none) (hs : noStar a = true) (ha : PE X a (tE p x)) : PI X tg (.Call (.Name "range" q) [a] [] pos) (tI p (.rng1 x)) :=
  weakI (pi_range1 hg hm (tE1 hs ha) (starEach_cons hs)) fun σ H Rr h => by
    have h : tG p PIt (fun sl m => (ev p.v x sl m).bind fun d m => (match d with
      | .int i => if small62 i && decide (i ≤ LIM) then R.ok (.itr (rangeD 0 i)) m else .stuck
      | _ => .stuck : Lt.R D).bind fun d m => R.of (itemsD d) m) σ H Rr := by
      obtain ⟨F, m, sl, mem, c, s, r⟩ := h
      simp only [ev, R.bind_assoc] at r
      exact ⟨F, m, sl, mem, c, s, r⟩
    refine (tG.bind (P := PV) PIt.anti (f := ev p.v x) h).mono fun y H1 ⟨F1, m1, sl1, mem1, d, H0, c1, s1, v1, r1⟩ => ?_
    cases d <;> first | exact r1.elim | skip
    rename_i i
    have e : y = .int i := by simpa [PV, VD] using v1
    cases hb : (small62 i && decide (i ≤ LIM)) with
    | false => simp only [hb] at r1; exact r1.elim
    | true =>
      simp only [hb, if_true] at r1
      simp only [Bool.and_eq_true, small62, decide_eq_true_eq] at hb
      have k := r1 (Itr 0 (i - 0).toNat) _ _ _ Step.refl c1 ⟨itr_ok, by simp [rangeD]; omega⟩
      rw [Int.sub_zero] at k
      exact ⟨i, by rw [e], hb.1.1, hb.1.2, k⟩
theorem pi_rng2 {tg a b : Expr} {q pos : Pos} {p : Pm} {x y : E} (hg : Gl X "range") (hm : X.mg "range" = none) (hs : noStar a = true) (hs2 : noStar b = true) (ha : PE X a (tE p x)) (hb' : PE X b (tE p y)) : PI X tg (.Call (.Name "range" q) [a, b] [] pos) (tI p (.rng2 x y)) :=
  weakI (pi_range2 hg hm (pa_cons ha (tE1 hs2 hb') (starEach_cons hs)) (by rw [starEach_cons hs, starEach_cons hs2]; rfl) (by rw [starEach_cons hs2]; rfl)) fun σ H Rr h => by
    have h : tG p PIt (fun sl m => (ev p.v x sl m).bind fun d m => (ev p.v y sl m).bind fun e m => (match d, e with
      | .int i, .int j => if small62 i && small62 j && decide (j - i ≤ LIM) then R.ok (.itr (rangeD i j)) m else .stuck
      | _, _ => .stuck : Lt.R D).bind fun d m => R.of (itemsD d) m) σ H Rr := by
      obtain ⟨F, m, sl, mem, c, s, r⟩ := h
      simp only [ev, R.bind_assoc] at r
      exact ⟨F, m, sl, mem, c, s, r⟩
    refine (tG.bind (P := PV) PIt.anti (f := ev p.v x) h).mono fun u H1 ⟨F1, m1, sl1, mem1, d, H0, c1, s1, v1, r1⟩ => ?_
    refine ⟨F1, m1, sl1, mem1, c1, s1, (Res.bind (P := PV) PIt.anti r1).mono fun w H2 ⟨F2, m2, e, mem2, st, c2, u2, e0, r2⟩ => ?_⟩
    cases d with
    | int i =>
      cases e with
      | int j =>
        have e1 : u = .int i := by simpa [PV, VD] using v1
        have e2 : w = .int j := by simpa [PV, VD] using u2
        cases hb : (small62 i && small62 j && decide (j - i ≤ LIM)) with
        | false => simp only [hb] at r2; exact r2.elim
        | true =>
          simp only [hb, if_true] at r2
          simp only [Bool.and_eq_true, small62, decide_eq_true_eq] at hb
          have k := r2 (Itr i (j - i).toNat) _ _ _ Step.refl c2 ⟨itr_ok, by simp [rangeD]; omega⟩
          exact ⟨i, j, by rw [e1, e2], ⟨hb.1.1.1, hb.1.1.2, hb.1.2.1, hb.1.2.2⟩, k⟩
      | _ => exact r2.elim
    | _ => first | exact r2.elim | (cases e <;> exact r2.elim)
/-- a value's length is within the line -/
def LenOk (H : Hp) (v : V) : Prop := ∀ a vs, v = .ref a → (H a = some (.lst vs) ∨ H a = some (.tup vs)) → vs.length ≤ sizeLine
theorem peLen {e : Expr} {t : TE} (he : PE X e t) : PE X e (fun σ H Q => t σ H fun v H1 => LenOk H1 v → Q v H1) := by
  refine ⟨fun pins s σ H Q I h => thn (he.run pins s σ H _ I h) fun v s1 ⟨y, H1, I1, r1, q⟩ => ⟨y, H1, I1, r1, q fun a vs e hh => ?_⟩⟩
  rcases hh with hh | hh
  · obtain ⟨_, _, hz⟩ := I1.list (SqL.of hh)
    exact hz.2
  · obtain ⟨_, _, hz⟩ := I1.tuple (SqT.of hh)
    exact hz.2
theorem pi_zip2 {elts : List Expr} {kk : Nat} {a b : Expr} {tpos q pos : Pos} {p : Pm} {x y : E} (hg : Gl X "zip") (hm : X.mg "zip" = none) (hs : noStar a = true) (hs2 : noStar b = true) (ha : PE X a (tE p x)) (hb' : PE X b (tE p y)) :
    PI X (.Tuple elts kk tpos) (.Call (.Name "zip" q) [a, b] [] pos) (tI p (.zip x y)) :=
  weakI (RZ.pi_zipA hg hm (pa_cons (peLen ha) (tE1 hs2 (peLen hb')) (starEach_cons hs)) (starEach_cons hs) (by rw [starEach_cons hs2]; rfl)) fun σ H Rr h => by
    have h : tG p PIt (fun sl m => (ev p.v x sl m).bind fun d m => (ev p.v y sl m).bind fun e m => (match d, e with
      | .lst xs, .lst ys => R.ok (.itr (zipD xs ys)) m
      | .tup xs, .tup ys => R.ok (.itr (zipD xs ys)) m
      | _, _ => .stuck : Lt.R D).bind fun d m => R.of (itemsD d) m) σ H Rr := by
      obtain ⟨F, m, sl, mem, c, s, r⟩ := h
      simp only [ev, R.bind_assoc] at r
      exact ⟨F, m, sl, mem, c, s, r⟩
    refine (tG.bind (P := PV) PIt.anti (f := ev p.v x) h).mono fun u H1 ⟨F1, m1, sl1, mem1, d, H0, c1, s1, v1, r1⟩ l1 => ?_
    refine ⟨F1, m1, sl1, mem1, c1, s1, (Res.bind (P := PV) PIt.anti r1).mono fun w H2 ⟨F2, m2, e, mem2, st, c2, u2, _, r2⟩ l2 => ?_⟩
    have v2 : VD F2 m2 d u := VD.step st v1
    cases d <;> first | exact r2.elim | skip
    · cases e <;> first | exact r2.elim | skip
      simp only [VD] at v2
      have u2 := u2
      simp only [PV, VD] at u2
      obtain ⟨a1, vs, rfl, h1, h2⟩ := v2
      obtain ⟨a2, us, rfl, h3, h4⟩ := u2
      have k := r2 (RZ.ItzT X.K a1 a2) _ _ _ Step.refl c2 ⟨itzT_ok h1 h3 h2 h4, by
        rw [zipD_len, h4.length, ← LIM_eq]; have := l2 a2 us rfl (.inr (c2.sub _ _ h3)); omega⟩
      exact ⟨a1, a2, vs, us, rfl, .inr ⟨SqT.of (c2.sub _ _ h1), SqT.of (c2.sub _ _ h3), k⟩⟩
    · cases e <;> first | exact r2.elim | skip
      simp only [VD] at v2
      have u2 := u2
      simp only [PV, VD] at u2
      obtain ⟨a1, vs, rfl, h1, h2⟩ := v2
      obtain ⟨a2, us, rfl, h3, h4⟩ := u2
      have k := r2 (Itz X.K a1 a2) _ _ _ Step.refl c2 ⟨itz_ok h1 h3 h2 h4, by
        rw [zipD_len, h4.length, ← LIM_eq]; have := l2 a2 us rfl (.inl (c2.sub _ _ h3)); omega⟩
      exact ⟨a1, a2, vs, us, rfl, .inl ⟨SqL.of (c2.sub _ _ h1), SqL.of (c2.sub _ _ h3), k⟩⟩

/-! ### comprehensions -/
mutual
theorem getS_clr : ∀ (t : T) (sl : Sl) (j : Nat), getS (clr t sl) j = if j ∈ idxT t then .no else getS sl j
  | .nm i, sl, j => by
    simp only [clr, idxT, getS_setS, List.mem_singleton]
    by_cases e : j = i
    · subst e
      by_cases hl : j < sl.length
      · simp [hl]
      · simp only [hl, and_false, if_false, if_true]
        cases h : getS sl j with
        | no => rfl
        | _ => exact absurd (getS_lt (sl := sl) (i := j) (by rw [h]; simp)) hl
    · simp [e]
  | .tp ts, sl, j => by simp only [clr, idxT]; exact getS_clrs ts sl j
theorem getS_clrs : ∀ (ts : List T) (sl : Sl) (j : Nat), getS (clrs ts sl) j = if j ∈ idxTs ts then .no else getS sl j
  | [], sl, j => by simp [clrs, idxTs]
  | t :: ts, sl, j => by
    simp only [clrs, idxTs, List.mem_append]
    rw [getS_clrs ts, getS_clr t]
    by_cases h1 : j ∈ idxTs ts
    · simp [h1]
    · by_cases h2 : j ∈ idxT t <;> simp [h1, h2]
end
mutual
theorem clr_len : ∀ (t : T) (sl : Sl), (clr t sl).length = sl.length
  | .nm i, sl => by simp only [clr]; exact setS_length
  | .tp ts, sl => by simp only [clr]; exact clrs_len ts sl
theorem clrs_len : ∀ (t : List T) (sl : Sl), (clrs t sl).length = sl.length
  | [], sl => by simp [clrs]
  | t :: ts, sl => by simp only [clrs]; rw [clrs_len ts, clr_len t]
end
theorem Slots.wipe {xa : Option Addr} {sl : Sl} {σ : L2.St} {t : T} {vs : List Nat} (s : Slots B F m H xa sl σ) (h : ∀ i, i ∈ idxT t ↔ i ∈ vs) : Slots B F m H xa (clr t sl) (wipe σ vs) := by
  refine ⟨by rw [clr_len, wipe_length]; exact s.len, fun j => ?_, fun j k d1 d2 a hjk h1 h2 h3 => ?_⟩
  · rw [getS_clr, wipe_get]
    by_cases hj : j ∈ vs
    · rw [if_pos ((h j).mpr hj)]; trivial
    · rw [if_neg (fun z => hj ((h j).mp z)), if_neg hj]; exact s.at_ j
  · rw [getS_clr] at h1 h2
    split at h1
    · cases h1
    · rename_i n1
      split at h2
      · cases h2
      · rename_i n2
        rw [wipe_get, if_neg (fun z => n1 ((h j).mpr z))] at h3
        rw [wipe_get, if_neg (fun z => n2 ((h k).mpr z))]
        exact s.one j k d1 d2 a hjk h1 h2 h3
theorem wipe_wipe {σ : L2.St} {vs : List Nat} : L2.wipe (L2.wipe σ vs) vs = L2.wipe σ vs := by
  apply List.ext_getElem?
  intro j
  rw [wipe_get]
  by_cases hj : j ∈ vs
  · rw [if_pos hj, wipe_get, if_pos hj]
    cases σ[j]? <;> rfl
  · rw [if_neg hj]
theorem Step.chg {p : Addr} {o : HO} (s : Step F m H F1 m1 H1) (hp : H p = none) : Step F m H F1 m1 (upd H1 p o) := by
  refine ⟨s.sub, s.fro, s.mm, fun a u h hm => ?_, fun a h => ?_⟩
  · rw [upd_ne (ne_of_none h hp)]; exact s.keep a u h hm
  · by_cases e : a = p
    · subst e; exact absurd hp h
    · rw [upd_ne e]; exact s.dom a h
theorem Core.chg {p : Addr} {o : HO} (c : Core F m mem H) (hF : F p = none) (hm : p ∉ m) : Core F m mem (upd H p o) := by
  refine ⟨fun a u h => ?_, c.len, c.nd, fun j a d h1 h2 => ?_⟩
  · rw [upd_ne (ne_of_none h hF)]; exact c.sub a u h
  · obtain ⟨f, k⟩ := c.obj j a d h1 h2
    have ne : a ≠ p := by rintro rfl; exact hm (List.mem_of_getElem? h1)
    refine ⟨f, ?_⟩
    cases d with
    | lst xs =>
      obtain ⟨vs, e, k⟩ := k
      exact ⟨vs, by rw [upd_ne ne]; exact e, k⟩
    | _ => exact k.elim
/-- the wish that nothing is raised -/
abbrev Pm.calm (p : Pm) : Pm := { p with W := fun _ _ _ _ => False }
abbrev tCnd (p : Pm) : E → TT
  | .omit => tYes
  | c => tT p c
/-- one turn's evaluation -/
def lcF (v : Cv) (t : T) (c el : E) (sl : Sl) : D → Mem → Lt.R (Option D) := fun x m => match tgt t x (clr t sl) with
  | some sl' => (match c with
    | .omit => (ev v el sl' m).calm.bind fun d m => .ok (some d) m
    | c => (ev v c sl' m).calm.bind fun b m => match b with
      | .bl true => (ev v el sl' m).calm.bind fun d m => .ok (some d) m
      | .bl false => .ok none m
      | _ => .stuck)
  | none => .stuck
theorem Res.calmB {α β γ δ : Type} {xr : XR} {P : Rl α β} {P2 : Rl γ δ} {w : Value → Option Addr → Hp → Prop} {Q2 : δ → Hp → Prop} {r : Lt.R α} {f : α → Mem → Lt.R γ} (h : Res xr P2 F m H w Q2 (r.calm.bind f)) :
    ∃ a mem', r = .ok a mem' ∧ Res xr P2 F m H w Q2 (f a mem') := by
  cases r with
  | ok a mem' => exact ⟨a, mem', rfl, h⟩
  | exc x mem' => exact h.elim
  | stuck => exact h.elim
/-- the state of a comprehension behind i items -/
structure LcI (xr : XR) (F1 : Hp) (m1 : List Addr) (H1 : Hp) (Dd : Addr) (w : Value → Option Addr → Hp → Prop) (Q : V → Hp → Prop) (f : D → Mem → Lt.R (Option D)) (xs : List D) (i : Nat) (Hc : Hp) : Prop where
  ex : ∃ (Fc : Hp) (mc : List Addr) (memc : Mem) (acc : List V) (dacc : List D), Step F1 m1 H1 Fc mc Hc ∧ Core Fc mc memc Hc ∧ Hc Dd = some (.lst acc) ∧ Fc Dd = none ∧ Dd ∉ mc ∧ VDs Fc mc dacc acc ∧ acc.length ≤ i ∧
    Res xr PF F1 m1 H1 w Q ((lcGo f (xs.drop i) memc).bind fun ds m => .ok (.lst (dacc ++ ds)) m)
theorem lc_end {xr : XR} {Dd : Addr} {w : Value → Option Addr → Hp → Prop} {Q : V → Hp → Prop} {f : D → Mem → Lt.R (Option D)} {xs : List D} {Hc : Hp} (hD : H1 Dd = none) (h : LcI xr F1 m1 H1 Dd w Q f xs xs.length Hc) : Q (.ref Dd) Hc := by
  obtain ⟨Fc, mc, memc, acc, dacc, st, c, e1, e2, e3, hv, _, r⟩ := h.ex
  rw [List.drop_length] at r
  have r' : Res xr PF F1 m1 H1 w Q (.ok (.lst (dacc ++ [])) memc) := r
  rw [List.append_nil] at r'
  exact r' _ _ _ _ st c ⟨Dd, acc, rfl, hD, e2, e3, e1, hv⟩
theorem lc_of {p : Pm} {K : PySem.W.Frag} {t : T} {it c el : E} {vs : List Nat} {σ : L2.St} {Q : V → Hp → Prop} (hvs : ∀ i, i ∈ idxT t ↔ i ∈ vs) (h : tF p (.lc t it c el) σ H Q) : tLc (tI p it) (gT K t) (tCnd p.calm c) (tE p.calm el) vs σ H Q := by
  have h : tG p PF (fun sl m => ((ev p.v it sl m).bind fun d m => R.of (itemsD d) m).bind fun xs m => (lcGo (lcF p.v t c el sl) xs m).bind fun ds m => .ok (.lst ds) m) σ H Q := by
    obtain ⟨F, m, sl, mem, cc, s, r⟩ := h
    simp only [ev] at r
    simp only [R.bind_assoc]
    exact ⟨F, m, sl, mem, cc, s, r⟩
  refine (tG.bind (P := PIt) PF.anti h).mono fun J H1 ⟨F1, m1, sl1, mem1, xs, H0, c1, s1, ⟨hJ, hlen⟩, r1⟩ => ?_
  intro Dd hD
  refine ⟨fun i n Hc => n = xs.length - i ∧ i ≤ xs.length ∧ LcI p.xr F1 m1 H1 Dd (fun c d H' => p.W c d σ H') Q (lcF p.v t c el sl1) xs i Hc, ⟨xs.length, by simp, Nat.zero_le _, ⟨F1, m1, mem1, [], [], Step.newO hD, c1.step_newO hD, upd_same, c1.freeF hD, fun hm => ?_, VDs.nil, Nat.zero_le _, ?_⟩⟩, ?_⟩
  · obtain ⟨j, hj, e⟩ := List.getElem_of_mem hm
    have hj' : j < mem1.length := by rw [← c1.len]; exact hj
    obtain ⟨_, k⟩ := c1.obj j Dd _ (by rw [List.getElem?_eq_getElem hj, e]) (List.getElem?_eq_getElem hj')
    exact k.some hD
  · rw [List.drop_zero]
    simpa only [List.nil_append] using r1
  · rintro i n Hc ⟨rfl, hi, inv⟩
    by_cases hlt : i < xs.length
    · obtain ⟨Fc, mc, memc, acc, dacc, st, cc, e1, e2, e3, hv, hal, r⟩ := inv.ex
      obtain ⟨g1, _, g3⟩ := hJ i Fc mc memc Hc st.sub (let ⟨n, e, _⟩ := st.mm; ⟨n, e⟩) cc
      refine .inr ⟨g1 hlt, fun H' => LcI p.xr F1 m1 H1 Dd (fun c d H' => p.W c d σ H') Q (lcF p.v t c el sl1) xs (i + 1) H', fun H' q => ⟨_, by omega, rfl, hlt, q⟩, fun x H2 y => ?_⟩
      have hx : xs[i]? = some xs[i] := List.getElem?_eq_getElem hlt
      obtain ⟨F2, st2, c2, v2⟩ := g3 _ x H2 hx y
      rw [List.drop_eq_getElem_cons hlt] at r
      simp only [lcGo, R.bind_assoc] at r
      have hDc : Hc Dd ≠ none := by rw [e1]; simp
      have e1' : H2 Dd = some (.lst acc) := st2.keep _ _ e1 e3
      have e2' : F2 Dd = none := st2.fro _ e2 hDc
      have s2 : Slots p.B F2 mc H2 p.xa (clr t sl1) (wipe σ vs) := ((s1.step st).step st2).wipe hvs
      cases et : tgt t xs[i] (clr t sl1) with
      | none =>
        simp only [lcF, et] at r
        exact r.elim
      | some sl' =>
        refine gT_ok K t _ x _ _ _ _ c2 v2 s2 et fun σ' s' hw => ⟨by rw [hw vs fun j hj => (hvs j).mp hj, wipe_wipe], ?_⟩
        -- the element
        have elt : ∀ {F3 m3 H3 mem3}, Step F2 mc H2 F3 m3 H3 → Core F3 m3 mem3 H3 → Slots p.B F3 m3 H3 p.xa sl' σ' →
            Res p.xr PF F1 m1 H1 (fun c d H' => p.W c d σ H') Q ((ev p.v el sl' mem3).calm.bind fun d m => (lcGo (lcF p.v t c el sl1) (xs.drop (i + 1)) m).bind fun ds m => .ok (.lst (dacc ++ d :: ds)) m) →
            tE p.calm el σ' H3 fun y H4 => ∃ acc, H4 Dd = some (.lst acc) ∧ acc.length < sizeLine ∧ LcI p.xr F1 m1 H1 Dd (fun c d H' => p.W c d σ H') Q (lcF p.v t c el sl1) xs (i + 1) (upd H4 Dd (.lst (acc ++ [y]))) := by
          intro F3 m3 H3 mem3 st3 c3 s3 r3
          obtain ⟨d, mem4, ed, r4⟩ := Res.calmB (P := PV) r3
          refine ⟨F3, m3, sl', mem3, c3, s3, ?_⟩
          rw [ed]
          intro y F4 m4 H4 st4 c4 hy
          have hDm3 : Dd ∉ m3 := by
            obtain ⟨new, e, hn⟩ := st3.mm
            rw [e]
            intro z
            rcases List.mem_append.mp z with z | z
            · exact e3 z
            · rw [hn _ z] at e1'; cases e1'
          have f1 : H3 Dd = some (.lst acc) := st3.keep _ _ e1' e3
          have f2 : F3 Dd = none := st3.fro _ e2' (by rw [e1']; simp)
          have f3 : H4 Dd = some (.lst acc) := st4.keep _ _ f1 hDm3
          have f4 : F4 Dd = none := st4.fro _ f2 (by rw [f1]; simp)
          have f5 : Dd ∉ m4 := by
            obtain ⟨new, e, hn⟩ := st4.mm
            rw [e]
            intro z
            rcases List.mem_append.mp z with z | z
            · exact hDm3 z
            · rw [hn _ z] at f1; cases f1
          refine ⟨acc, f3, by rw [LIM_eq]; omega, ⟨F4, m4, mem4, acc ++ [y], dacc ++ [d], ?_, c4.chg f4 f5, upd_same, f4, f5, ?_, by simp; omega, ?_⟩⟩
          · exact (((st.trans st2).trans st3).trans st4).chg hD
          · exact (((hv.step st2).step st3).step st4).append (VDs.cons hy VDs.nil)
          · simpa only [List.append_assoc, List.singleton_append] using r4
        have omitted : c = .omit → Res p.xr PF F1 m1 H1 (fun c d H' => p.W c d σ H') Q ((ev p.v el sl' memc).calm.bind fun d m => (lcGo (lcF p.v t c el sl1) (xs.drop (i + 1)) m).bind fun ds m => .ok (.lst (dacc ++ d :: ds)) m) := by
          intro e
          subst e
          have r' := r
          simp only [lcF, et, R.bind_assoc] at r'
          exact r'
        have tested : c ≠ .omit → ∃ b mem3, ev p.v c sl' memc = .ok (.bl b) mem3 ∧ (b = true → Res p.xr PF F1 m1 H1 (fun c d H' => p.W c d σ H') Q ((ev p.v el sl' mem3).calm.bind fun d m => (lcGo (lcF p.v t c el sl1) (xs.drop (i + 1)) m).bind fun ds m => .ok (.lst (dacc ++ d :: ds)) m)) ∧
            (b = false → Res p.xr PF F1 m1 H1 (fun c d H' => p.W c d σ H') Q ((lcGo (lcF p.v t c el sl1) (xs.drop (i + 1)) mem3).bind fun ds m => .ok (.lst (dacc ++ ds)) m)) := by
          intro hc
          have e : lcF p.v t c el sl1 xs[i] memc = (ev p.v c sl' memc).calm.bind fun b m => match b with
            | .bl true => (ev p.v el sl' m).calm.bind fun d m => .ok (some d) m
            | .bl false => .ok none m
            | _ => .stuck := by
            unfold lcF
            rw [et]
            cases c <;> first | rfl | exact absurd rfl hc
          rw [e, R.bind_assoc] at r
          obtain ⟨b, mem3, eb, r3⟩ := Res.calmB (P := PV) r
          cases b <;> first | exact r3.elim | skip
          rename_i b
          refine ⟨b, mem3, eb, fun z => ?_, fun z => ?_⟩
          · subst z
            simp only [R.bind_assoc] at r3
            exact r3
          · subst z
            exact r3
        by_cases hc : c = .omit
        · have r' := omitted hc
          subst hc
          show tYes σ' H2 _
          exact elt Step.refl c2 s' r'
        · obtain ⟨b, mem3, eb, r5, r6⟩ := tested hc
          have ht : tCnd p.calm c = tT p.calm c := by cases c <;> first | rfl | exact absurd rfl hc
          rw [ht]
          refine ⟨F2, mc, sl', memc, c2, s', ?_⟩
          show Res p.xr PB F2 mc H2 _ _ ((ev p.v c sl' memc).bind asB)
          rw [eb]
          intro b' F3 m3 H3 st3 c3 hb
          have hb : b = b' := hb
          subst hb
          cases b with
          | true =>
            rw [if_pos rfl]
            exact elt st3 c3 (s'.step st3) (r5 rfl)
          | false =>
            rw [if_neg Bool.false_ne_true]
            have hDm3 : Dd ∉ m3 := by
              obtain ⟨new, e, hn⟩ := st3.mm
              rw [e]
              intro z
              rcases List.mem_append.mp z with z | z
              · exact e3 z
              · rw [hn _ z] at e1'; cases e1'
            exact ⟨F3, m3, mem3, acc, dacc, (st.trans st2).trans st3, c3, st3.keep _ _ e1' e3, st3.fro _ e2' (by rw [e1']; simp), hDm3, (hv.step st2).step st3, by omega, r6 rfl⟩
    · have e : i = xs.length := by omega
      subst e
      obtain ⟨Fc, mc, memc, acc, dacc, st, cc, _⟩ := inv.ex
      exact .inl ⟨(hJ _ Fc mc memc Hc st.sub (let ⟨n, e, _⟩ := st.mm; ⟨n, e⟩) cc).2.1 (Nat.le_refl _), lc_end hD inv⟩
end Lt

set_option Elab.async false
set_option linter.all false
set_option maxRecDepth 100000
set_option maxHeartbeats 4000000
/-! Lt10: the check of an expression, and that it is sound. -/
namespace Lt
open PySem PySem.Spec PyProof.Rows L2
variable {F F' F1 F2 : Hp} {m m' m1 m2 : List Addr} {H H' H1 H2 B : Hp} {mem mem' mem1 mem2 : Mem} {X : Cx}

/-- new or frozen -/
def rlF (b : Bool) : Rl D V := if b then PF else PV
theorem rlF.anti : ∀ {b : Bool}, Anti (rlF b)
  | true => PF.anti
  | false => PV.anti
/-- a def's promise: what the call in Lt gives -/
def spOf (G : Tab) (wf : Nat) (xr : XR) (n : Nat) (f : String) : Sp := fun vs H Q E =>
  ∃ d F m mem ds, G.fn f = some d ∧ Core F m mem H ∧ VDs F m ds vs ∧ ds.length = d.ps.length ∧ Res xr (rlF d.fresh) F m H E Q (call G wf n f ds mem)
abbrev pst (l : List String) : List Str := l.map Str.ofString
/-- whether a list that the term gives is new -/
def frE (G : Tab) : E → Bool
  | .var _ | .glob _ _ | .lit _ | .idx _ _ | .and _ _ | .or _ _ => false
  | .call f _ | .callK f _ _ _ => match G.fn f with
    | some d => d.fresh
    | none => false
  | .ite _ a b => frE G a && frE G b
  | _ => true
def bltNm : Blt → String
  | .len => "len" | .all => "all" | .any => "any" | .sum => "sum" | .min1 | .min2 => "min" | .max1 | .max2 => "max" | .int => "int" | .str => "str" | .list => "list" | .tuple => "tuple" | .sorted => "sorted" | .ord => "ord" | .abs => "abs"
def bltHave : Blt → Bool
  | .len | .all | .any | .sum | .min2 | .max2 | .int | .list | .tuple | .ord | .abs => true
  | _ => false
def mthNm : Mth → String
  | .find1 | .find2 => "find" | .join => "join" | .strip1 => "strip" | .index => "index" | .count => "count"
def mthHave : Mth → Bool
  | .find1 | .find2 | .join => true
  | _ => false
def allBlt : List String := ["len", "all", "any", "sum", "min", "max", "int", "str", "list", "tuple", "sorted", "ord", "abs", "isinstance", "range", "zip", "enumerate", "bool", "dict"]
/-- what holds where a text runs -/
structure GX (G : Tab) (wf n : Nat) (k : Ck) (p : Pm) (X : Cx) : Prop where
  hG : k.G = G
  v : p.v = cvOf G wf n
  N : X.N = k.N
  sc : X.env.scope = k.sc
  nd : X.N.Nodup
  un : X.A.units + 64 < cLine
  room : k.hot = false → Room n X.A
  calm : k.hot = false → X.calm = true
  tk : Takes X p.W
  loc : ∀ x, k.loc x = true → Loc X.env.scope x ∧ (X.fn x = true ∨ X.env.scope.names.lookup x = some .local)
  fns : ∀ f d, G.fn f = some d → ∃ a fd, X.mg (Str.ofString f) = some (.ref a) ∧ PySem.W.keepIn X.K (.ref a) = true ∧ FnOk X.prog X.w X.K X.mg X.base (L2.CX X.prog X.w) n a fd (pst d.ps) (spOf G wf p.xr n f) ∧ Binds X.K fd (pst d.ps) []
  blt : ∀ x, x ∈ allBlt → X.mg (Str.ofString x) = none
  gl : ∀ x d, G.gl x = some d → ∃ u v, X.mg (Str.ofString x) = some u ∧ RelV v u ∧ ∀ F m, VD F m d v

/-! ### calls of defs -/
theorem call_some {G : Tab} {wf n : Nat} {f : String} {ds : List D} {mem : Mem} (h : call G wf n f ds mem ≠ .stuck) : ∃ d, G.fn f = some d ∧ ds.length = d.ps.length := by
  cases n with
  | zero => exact absurd rfl h
  | succ n =>
    unfold call at h
    cases e : G.fn f with
    | none => rw [e] at h; exact absurd rfl h
    | some d =>
      rw [e] at h
      by_cases hl : ds.length = d.ps.length
      · exact ⟨d, rfl, hl⟩
      · simp only [if_neg hl] at h
        exact absurd rfl h
theorem pe_call2 {G : Tab} {wf n : Nat} {k : Ck} {p : Pm} (g : GX G wf n k p X) (hk : k.hot = false) {f : String} {d : Fn} (hf : G.fn f = some d) {x : Str} {e : Expr} {es : List Expr} {q pos : Pos} {xs : List E}
    (hx : x = Str.ofString f) (hg : Gl X x) (hdb : (x == ("__debug__" : Str)) = false) (hs : (e :: es).all noStar = true) (ha : PA X (e :: es) (tAs p xs)) : PE X (.Call (.Name x q) (e :: es) [] pos) (tG p (rlF d.fresh) (ev p.v (.call f xs))) := by
  obtain ⟨a, fd, h1, h2, h3, h4⟩ := g.fns f d hf
  simp only [List.all_cons, Bool.and_eq_true] at hs
  subst hx
  refine weakE (pe_callS (E := WE p.W) h3 (g.room hk) hg h1 h2 h4 (fun σ => passAt g.tk σ) ha hdb (starEach_cons hs.1) (noAny hs.2)) fun σ H Q h => ?_
  obtain ⟨F, m, sl, mem, c, s, r⟩ := h
  simp only [ev] at r
  refine ⟨F, m, sl, mem, c, s, (Res.bind (P := PVs) rlF.anti r).mono fun us H1 ⟨F1, m1, ds, mem1, st, c1, u1, e0, r1⟩ => ?_⟩
  have e : p.v.C = call G wf n := by rw [g.v]
  rw [e] at r1
  obtain ⟨d', e1, e2⟩ := call_some (G := G) (wf := wf) (n := n) (f := f) (ds := ds) (mem := mem1) (by intro z; rw [z] at r1; exact r1)
  rw [hf] at e1
  cases e1
  exact ⟨d, F1, m1, mem1, ds, hf, c1, u1, e2, r1⟩

/-! ### isinstance -/
def tyNm : Expr → Option Str
  | .Name x _ => some x
  | _ => none
def chkTy (sc : Scope) (t : Ty) (e : Expr) : Bool := match e with
  | .Name x _ => decide (x = Str.ofString t.name) && glB sc x
  | _ => false
def chkTys (sc : Scope) : List Ty → List Expr → Bool
  | [], es => es.isEmpty
  | t :: ts, es => match es with
    | e :: es => chkTy sc t e && chkTys sc ts es
    | [] => false
theorem boot_ty (t : Ty) : bootBuiltins (Str.ofString t.name) = some (.type t.name) := by cases t <;> (simp only [Ty.name]; decide +kernel)
theorem pe_ty {G : Tab} {wf n : Nat} {k : Ck} {p : Pm} (g : GX G wf n k p X) {t : Ty} {e : Expr} (h : chkTy k.sc t e = true) : PE X e (tC (.ty t.name)) := by
  cases e <;> first | (simp [chkTy] at h; done) | skip
  simp only [chkTy, Bool.and_eq_true, decide_eq_true_eq] at h
  obtain ⟨rfl, h2⟩ := h
  exact pe_bltn (glB_ok g.sc h2) (g.blt t.name (by cases t <;> decide)) (boot_ty t) rfl (by cases t <;> (simp only [Ty.name]; decide)) (by cases t <;> (simp only [Ty.name]; decide))
theorem chkTy_noStar {sc : Scope} {t : Ty} {e : Expr} (h : chkTy sc t e = true) : noStar e = true := by cases e <;> first | rfl | (simp [chkTy] at h; done)
theorem pa_tys {G : Tab} {wf n : Nat} {k : Ck} {p : Pm} (g : GX G wf n k p X) : ∀ {ts : List Ty} {es : List Expr}, chkTys k.sc ts es = true → PA X es (fun σ H Q => Q (ts.map fun t => .ty t.name) H)
  | [], es, h => by
    simp only [chkTys, List.isEmpty_iff] at h
    subst h
    exact weakA pa_nil fun _ _ _ q => q
  | t :: ts, es, h => by
    cases es with
    | nil => simp [chkTys] at h
    | cons e es =>
      simp only [chkTys, Bool.and_eq_true] at h
      exact weakA (pa_cons (pe_ty g h.1) (pa_tys g h.2) (starEach_cons (chkTy_noStar h.1))) fun _ _ _ q => q
theorem clsVs : ∀ ts : List Ty, Paired ClsV (ts.map fun t => .ty t.name) (ts.map fun t => .type t.name)
  | [] => .nil
  | t :: ts => .cons (.ty _) (clsVs ts)
theorem isi_of {p : Pm} {x : E} {ts : List Ty} {σ : L2.St} {Q : V → Hp → Prop} (h : tF p (.isi x ts) σ H Q) : tR p x σ H fun v H1 => ∃ F m mem d, Core F m mem H1 ∧ RB F m H1 d v ∧ Res p.xr PF F m H1 (fun c d H' => p.W c d σ H') Q (.ok (.bl (ts.any (isTy d))) mem) := by
  obtain ⟨F, m, sl, mem, c, s, r⟩ := h
  simp only [ev] at r
  refine ⟨F, m, sl, mem, c, s, (Res.bind (P := PR) PF.anti r).mono fun v H1 ⟨F1, m1, d, mem1, st, c1, v1, e0, r1⟩ => ?_⟩
  exact ⟨F1, m1, mem1, _, c1, RB.of c1 v1, r1⟩
theorem pe_isi1 {G : Tab} {wf n : Nat} {k : Ck} {p : Pm} (g : GX G wf n k p X) {t : Ty} {x : Str} {y e : Expr} {q pos : Pos} {a : E} (hx : x = Str.ofString "isinstance") (hg : Gl X x) (hs : noStar y = true) (hy : PE X y (tR p a)) (h : chkTy k.sc t e = true) :
    PE X (.Call (.Name x q) [y, e] [] pos) (tF p (.isi a [t])) := by
  subst hx
  have hs2 := chkTy_noStar h
  refine weakE (pe_callB call_isi hg (g.blt "isinstance" (by decide)) boot_isinstance (pa_cons hy (tE1 hs2 (pe_ty g h)) (starEach_cons hs)) (by decide) (by decide) (starEach_cons hs) (noAny (by simp [hs2]))) fun σ H Q h => ?_
  refine (isi_of h).mono fun v H1 ⟨F, m, mem, d, c, b, r⟩ => ?_
  refine ⟨v, .ty t.name, .type (tyName d), .type t.name, isTy d t, rfl, .ty _, rb_ty c b, kit_ty (kitB_all d (rb_named b) t), ?_⟩
  have r' := end_bl c r
  simpa using r'
theorem pe_isiN {G : Tab} {wf n : Nat} {k : Ck} {p : Pm} (g : GX G wf n k p X) {ts : List Ty} {x : Str} {y : Expr} {es : List Expr} {kk : Nat} {q pos tpos : Pos} {a : E} (hx : x = Str.ofString "isinstance") (hg : Gl X x) (hs : noStar y = true) (hl : ts.length ≤ 1000) (hy : PE X y (tR p a)) (h : chkTys k.sc ts es = true) :
    PE X (.Call (.Name x q) [y, .Tuple es kk tpos] [] pos) (tF p (.isi a ts)) := by
  subst hx
  refine weakE (pe_callB call_isiT hg (g.blt "isinstance" (by decide)) boot_isinstance (pa_cons hy (tE1 rfl (pe_tup (pa_tys g h))) (starEach_cons hs)) (by decide) (by decide) (starEach_cons hs) (noAny rfl)) fun σ H Q h => ?_
  refine (isi_of h).mono fun v H1 ⟨F, m, mem, d, c, b, r⟩ => ?_
  refine ⟨by rw [List.length_map]; exact small_len hl, fun tp htp => ?_⟩
  have hn : ∀ {a : Addr} {vs : List V}, H1 a = some (.lst vs) → upd H1 tp (.tup (ts.map fun t => .ty t.name)) a = some (.lst vs) := fun h => by rw [upd_ne (ne_of_none h htp)]; exact h
  have c2 := c.step_newO (o := .tup (ts.map fun t => V.ty t.name)) htp
  have b2 : RB F m (upd H1 tp (.tup (ts.map fun t => .ty t.name))) d v := by
    cases d <;> first | exact b | skip
    obtain ⟨a, vs, e, h1, h2⟩ := b
    exact ⟨a, vs, e, hn h1, h2⟩
  refine ⟨v, tp, _, .type (tyName d), _, ts.any (isTy d), rfl, upd_same, clsVs ts, rb_ty c2 b2, kitAny_all (rb_named b) ts, ?_⟩
  exact r _ _ _ _ (Step.newO htp) c2 (by simp [PF, VD])
end Lt

set_option Elab.async false
set_option linter.all false
set_option maxRecDepth 100000
set_option maxHeartbeats 8000000
/-! Lt11: the check of an expression; what it gives. -/
namespace Lt
open PySem PySem.Spec PyProof.Rows L2
variable {F F' F1 F2 : Hp} {m m' m1 m2 : List Addr} {H H' H1 H2 B : Hp} {mem mem' mem1 mem2 : Mem} {X : Cx}

def isIt : E → Bool
  | .rng1 _ | .rng2 _ _ | .zip _ _ | .enum _ => true
  | _ => false
def needTup : E → Bool
  | .zip _ _ | .enum _ => true
  | _ => false
def isTupE : Expr → Bool
  | .Tuple .. => true
  | _ => false
def isIte : E → Bool
  | .ite _ _ _ => true
  | _ => false
def litB : D → Const → Bool
  | .non, .none => true
  | .bl b, .bool c => b == c
  | .int i, .int j => decide (i = j)
  | .str s, .str z => decide (z = ⟨s.toArray⟩) && s.all (· < 1114112) && decide (s.length ≤ LIM)
  | _, _ => false
def glD (G : Tab) (x : String) : D → Bool
  | .str s => match G.gl x with
    | some (.str t) => s == t
    | _ => false
  | .int s => match G.gl x with
    | some (.int t) => s == t
    | _ => false
  | .bl s => match G.gl x with
    | some (.bl t) => s == t
    | _ => false
  | _ => false
def bopB : Bop → Operator → Bool
  | .add, .Add => true | .sub, .Sub => true | .mul, .Mult => true | .fdiv, .FloorDiv => true | .mod, .Mod => true | .pow, .Pow => true
  | _, _ => false
def copB : Cop → CmpOp → Bool
  | .eq, .Eq => true | .ne, .NotEq => true | .lt, .Lt => true | .le, .LtE => true | .gt, .Gt => true | .ge, .GtE => true
  | .isin, .In => true | .notin, .NotIn => true | .is, .Is => true | .isnot, .IsNot => true
  | _, _ => false
def notSlice : Expr → Bool
  | .Slice .. => false
  | _ => true
def notCall0 : Expr → Bool
  | .Call _ [] _ _ => false
  | _ => true
def notSet : Expr → Bool
  | .Set .. => false
  | _ => true
def ownOf (N : List Str) (scope : Scope) : List (Str × Nat) := (N.zipIdx).filter fun p => match scope.names.lookup p.1 with
  | some .local => true
  | some .cell => true
  | _ => false
def blkK (k : Ck) (scope : Scope) : Ck := { k with sc := relS scope k.sc, loc := fun x => match scope.names.lookup x with
  | some .local => true
  | some .cell => true
  | _ => false }
def sameIdx (t : T) (own : List (Str × Nat)) : Bool := (idxT t).all (fun i => (own.map (·.2)).contains i) && (own.map (·.2)).all (fun i => (idxT t).contains i)

mutual
def chk : E → Ck → Expr → Bool
  | .var i, k, e => match e with
    | .Name x _ => varB k i x
    | _ => false
  | .lit d, _, e => match e with
    | .Constant c _ _ => litB d c
    | _ => false
  | .glob x d, k, e => match e with
    | .Name y _ => decide (y = Str.ofString x) && glB k.sc y && glD k.G x d && !(y == ("__debug__" : Str))
    | _ => false
  | .bin op a b, k, e => match e with
    | .BinOp l o r _ => bopB op o && !isIt a && !isIt b && chk a k l && chk b k r
    | _ => false
  | .neg a, k, e => match e with
    | .UnaryOp .USub x _ => !isIt a && chk a k x
    | _ => false
  | .cmp op a b, k, e => match e with
    | .Compare l [o] [r] _ => copB op o && !isIt a && !isIt b && !behindInMarks o r && chk a k l && chk b k r
    | _ => false
  | .chain op op' a b c, k, e => match e with
    | .Compare l [o, o'] [q, r] _ => copB op o && copB op' o' && !isIt a && !isIt b && !isIt c && !lastMarks [o, o'] [q, r] && chk a k l && chk b k q && chk c k r
    | _ => false
  | .and a b, k, e => match e with
    | .BoolOp .And (x :: y :: r) pos => !isIt a && !isIt b && !isIte a && !isIte b && chk a k x && (match r with
      | [] => chk b k y
      | _ => chk b k (.BoolOp .And (y :: r) pos))
    | _ => false
  | .or a b, k, e => match e with
    | .BoolOp .Or (x :: y :: r) pos => !isIt a && !isIt b && !isIte a && !isIte b && chk a k x && (match r with
      | [] => chk b k y
      | _ => chk b k (.BoolOp .Or (y :: r) pos))
    | _ => false
  | .not a, k, e => match e with
    | .UnaryOp .Not x _ => !isIt a && !isIte a && chk a k x
    | _ => false
  | .ite c a b, k, e => match e with
    | .IfExp t x y _ => !isIt c && !isIte c && !isIt a && !isIt b && chk c k t && chk a k x && chk b k y
    | _ => false
  | .tup es, k, e => match e with
    | .Tuple xs _ _ => decide (es.length ≤ 1000) && chks es k xs
    | _ => false
  | .lst es, k, e => match e with
    | .List xs _ => decide (es.length ≤ 1000) && chks es k xs
    | _ => false
  | .tupS es, k, e => match e with
    | .Tuple xs _ _ => chkS es k xs
    | _ => false
  | .lstS es, k, e => match e with
    | .List xs _ => chkS es k xs
    | _ => false
  | .idx a i, k, e => match e with
    | .Subscript x y _ => notSlice y && !isIt a && !isIt i && chk a k x && chk i k y
    | _ => false
  | .slc a lo hi, k, e => match e with
    | .Subscript x (.Slice l h none _) _ => !isIt a && !isIt lo && !isIt hi && chk a k x && (match l with
      | none => (match lo with | .omit => true | _ => false)
      | some l => (match lo with | .omit => false | _ => true) && chk lo k l) && (match h with
      | none => (match hi with | .omit => true | _ => false)
      | some h => (match hi with | .omit => false | _ => true) && chk hi k h)
    | _ => false
  | .call f es, k, e => match e with
    | .Call (.Name x _) (y :: ys) [] _ => decide (x = Str.ofString f) && glB k.sc x && (k.G.fn f).isSome && !k.hot && !(x == ("__debug__" : Str)) && chks es k (y :: ys)
    | _ => false
  | .blt b es, k, e => match e with
    | .Call (.Name x _) (y :: ys) [] _ => decide (x = Str.ofString (bltNm b)) && glB k.sc x && bltHave b && !k.hot && chks es k (y :: ys)
    | _ => false
  | .isi a ts, k, e => match e with
    | .Call (.Name x _) [y, z] [] _ => decide (x = Str.ofString "isinstance") && glB k.sc x && noStar y && !isIt a && decide (ts.length ≤ 1000) && chk a k y && (match z with
      | .Tuple es _ _ => chkTys k.sc ts es
      | z => (match ts with
        | [t] => chkTy k.sc t z
        | _ => false))
    | _ => false
  | .mth f o es, k, e => match e with
    | .Call (.Attribute x nm ap) (y :: ys) [] pos => decide (nm = Str.ofString (mthNm f)) && (ap.endLine == pos.line) && mthHave f && notCall0 x && !isIt o && decide (ys.length < 20) && chk o k x && chks es k (y :: ys)
    | _ => false
  | .lc t it c el, k, e => match e with
    | .ListComp elt [⟨tg, iter, ifs, 0⟩] scope _ => !k.hot && (!needTup it || isTupE tg) && notSet iter && chk it k iter && chkT k.N (blkK k scope).loc t tg && blkC k.N k.sc scope (ownOf k.N scope) && sameIdx t (ownOf k.N scope) &&
        !isIt el && chk el (blkK k scope) elt && (match ifs with
        | [] => (match c with | .omit => true | _ => false)
        | [i] => (match c with | .omit => false | _ => true) && !isIt c && !isIte c && chk c (blkK k scope) i
        | _ => false)
    | _ => false
  | .rng1 a, k, e => match e with
    | .Call (.Name x _) [y] [] _ => decide (x = Str.ofString "range") && glB k.sc x && noStar y && !isIt a && chk a k y
    | _ => false
  | .rng2 a b, k, e => match e with
    | .Call (.Name x _) [y, z] [] _ => decide (x = Str.ofString "range") && glB k.sc x && noStar y && noStar z && !isIt a && !isIt b && chk a k y && chk b k z
    | _ => false
  | .zip a b, k, e => match e with
    | .Call (.Name x _) [y, z] [] _ => decide (x = Str.ofString "zip") && glB k.sc x && noStar y && noStar z && !isIt a && !isIt b && chk a k y && chk b k z
    | _ => false
  | _, _, _ => false
def chks : List E → Ck → List Expr → Bool
  | [], _, es => es.isEmpty
  | a :: as, k, es => match es with
    | e :: es => noStar e && !isIt a && chk a k e && chks as k es
    | [] => false
def chkS : List E → Ck → List Expr → Bool
  | [], _, es => es.isEmpty
  | .star a :: as, k, es => match es with
    | .Starred e _ :: es => !isIt a && chk a k e && chkS as k es
    | _ => false
  | a :: as, k, es => match es with
    | e :: es => noStar e && !isIt a && chk a k e && chkS as k es
    | [] => false
end
end Lt

set_option Elab.async false
set_option linter.all false
set_option maxRecDepth 100000
set_option maxHeartbeats 8000000
/-! Lt12: the check of an expression is sound. -/
namespace Lt
open PySem PySem.Spec PyProof.Rows L2
variable {F F' F1 F2 : Hp} {m m' m1 m2 : List Addr} {H H' H1 H2 B : Hp} {mem mem' mem1 mem2 : Mem} {X : Cx} {G : Tab} {wf n : Nat}

structure Snd (G : Tab) (p : Pm) (X : Cx) (a : E) (e : Expr) : Prop where
  pe : isIt a = false → PE X e (tG p (rlF (frE G a)) (ev p.v a))
  pr : isIt a = false → PE X e (tR p a)
  pt : isIt a = false → isIte a = false → PT X e (tT p a) ∧ ∀ op vs pos, e = .BoolOp op vs pos → PW X e (tT p a)
  pi : isIt a = true → needTup a = false → ∀ tg, PI X tg e (tI p a)
  piT : needTup a = true → ∀ elts kk tpos, PI X (.Tuple elts kk tpos) e (tI p a)
theorem Snd.toE {p : Pm} {a : E} {e : Expr} (s : Snd G p X a e) (h : isIt a = false) : PE X e (tE p a) := by
  have q := s.pe h
  cases hf : frE G a with
  | false => rw [hf] at q; exact q
  | true => rw [hf] at q; exact E_of_F q
def PlainT (e : Expr) : Prop := (∀ env whole, isTrue e env whole = (do let v ← whole; standAt e.pos; holding [v] (truthy v))) ∧ ∀ op vs pos, e ≠ .BoolOp op vs pos
theorem pt_E {p : Pm} {a : E} {e : Expr} (h : PE X e (tE p a)) (ht : PlainT e) : PT X e (tT p a) := weakT (pt_val h (ht.1 _)) fun σ H Q q => T_of_E q
theorem tup_it {a : E} (h : needTup a = true) : isIt a = true := by cases a <;> first | rfl | exact h
theorem Snd.mk' {p : Pm} {a : E} {e : Expr} (hi : isIt a = false) (h : PE X e (tG p (rlF (frE G a)) (ev p.v a))) (hr : PE X e (tR p a)) (ht : isIte a = false → PT X e (tT p a) ∧ ∀ op vs pos, e = .BoolOp op vs pos → PW X e (tT p a)) : Snd G p X a e :=
  ⟨fun _ => h, fun _ => hr, fun _ q => ht q, fun z => absurd (hi.symm.trans z) (by decide), fun z => absurd (hi.symm.trans (tup_it z)) (by decide)⟩
theorem Snd.ofF {p : Pm} {a : E} {e : Expr} (hi : isIt a = false) (hv : ∀ i, a ≠ .var i) (hf : frE G a = true) (ht : PlainT e) (h : PE X e (tF p a)) : Snd G p X a e :=
  .mk' hi (by rw [hf]; exact h) (R_of_F hv h) fun _ => ⟨pt_E (E_of_F h) ht, fun op vs pos z => absurd z (ht.2 op vs pos)⟩
theorem Snd.ofE {p : Pm} {a : E} {e : Expr} (hi : isIt a = false) (hv : ∀ i, a ≠ .var i) (hf : frE G a = false) (ht : PlainT e) (h : PE X e (tE p a)) : Snd G p X a e :=
  .mk' hi (by rw [hf]; exact h) (R_of_E hv h) fun _ => ⟨pt_E h ht, fun op vs pos z => absurd z (ht.2 op vs pos)⟩
/-- a bool as a value, read -/
theorem vals_not (b : Bool) : (!b) = true ↔ b = false := by cases b <;> simp

theorem ok_bop {X : Cx} {op : Bop} {o : Operator} (h : bopB op o = true) : Ok2 X (binaryOp o) (binD op) := by
  cases op <;> cases o <;> first | exact Bool.noConfusion h | skip
  · exact ok_add
  · exact ok_sub
  · exact ok_mul
  · exact ok_fdiv
  · exact ok_mod
  · exact ok_pow
theorem ok_cop {X : Cx} (hu : X.A.units + 64 < cLine) {op : Cop} {o : CmpOp} (h : copB op o = true) : Ok2 X (compareOp o) (cmpB op) := by
  cases op <;> cases o <;> first | exact Bool.noConfusion h | skip
  · exact ok_eq hu
  · exact ok_ne hu
  · exact ok_lt
  · exact ok_le
  · exact ok_gt
  · exact ok_ge
  · exact ok_in
  · exact ok_notin
  · exact ok_is
  · exact ok_isnot
theorem plainIx {b : Expr} (h : notSlice b = true) : PlainIx b := by
  intro o i
  cases b <;> first | rfl | exact Bool.noConfusion h
theorem attr_base {o : Expr} {nm : Str} {env : Env} (h : notCall0 o = true) : attributeBase o nm env (eval o env) = eval o env := by
  cases o <;> first | rfl | skip
  rename_i f args kws pos
  cases args with
  | nil => exact Bool.noConfusion h
  | cons a as => cases f <;> rfl
theorem folded {iter : Expr} {env : Env} (h : notSet iter = true) : ∀ x, foldedSetIterable iter env x = pure x := by
  intro x
  cases iter <;> first | rfl | exact Bool.noConfusion h
theorem lit_ok {p : Pm} {d : D} {c : Const} {j : Nat} {pos : Pos} (h : litB d c = true) : PE X (.Constant c j pos) (tE p (.lit d)) := by
  cases d <;> cases c <;> first | exact Bool.noConfusion h | skip
  · exact weakE pe_non fun σ H Q ⟨F, m, sl, mem, c, s, r⟩ => end_pv (d := .non) c (by simp [VD]) (by simpa only [ev] using r)
  · rename_i b b'
    have e : b = b' := by simpa [litB] using h
    subst e
    exact weakE pe_bl fun σ H Q ⟨F, m, sl, mem, c, s, r⟩ => end_pv (d := .bl b) c (by simp [VD]) (by simpa only [ev] using r)
  · rename_i i i'
    have e : i = i' := by simpa [litB] using h
    subst e
    exact weakE pe_int fun σ H Q ⟨F, m, sl, mem, c, s, r⟩ => end_pv (d := .int i) c (by simp [VD]) (by simpa only [ev] using r)
  · rename_i s z
    simp only [litB, Bool.and_eq_true, decide_eq_true_eq, List.all_eq_true] at h
    obtain ⟨⟨rfl, h1⟩, h2⟩ := h
    exact weakE pe_str fun σ H Q ⟨F, m, sl, mem, c, s', r⟩ => end_pv (d := .str s) c (by simp only [VD]; exact ⟨trivial, h1, h2⟩) (by simpa only [ev] using r)
theorem glob_ok {k : Ck} {p : Pm} (g : GX G wf n k p X) {x : String} {d : D} {y : Str} {pos : Pos} (hy : y = Str.ofString x) (hg : Gl X y) (hd : glD k.G x d = true) (hdb : (y == ("__debug__" : Str)) = false) : PE X (.Name y pos) (tE p (.glob x d)) := by
  rw [g.hG] at hd
  have key : G.gl x = some d := by
    cases d <;> first | (simp [glD] at hd; done) | skip
    all_goals
      simp only [glD] at hd
      cases e : G.gl x with
      | none => rw [e] at hd; exact Bool.noConfusion hd
      | some d' =>
        rw [e] at hd
        cases d' <;> first | exact Bool.noConfusion hd | skip
        rw [beq_iff_eq] at hd
        rw [hd]
  obtain ⟨u, v, h1, h2, h3⟩ := g.gl x d key
  subst hy
  refine weakE (pe_glob hg h1 h2 hdb) fun σ H Q ⟨F, m, sl, mem, c, s, r⟩ => end_pv c (h3 F m) (by simpa only [ev] using r)
theorem blt_ok {k : Ck} {p : Pm} (g : GX G wf n k p X) (hk : k.hot = false) {b : Blt} (hb : bltHave b = true) {x : Str} {e : Expr} {es : List Expr} {q pos : Pos} {xs : List E} (hx : x = Str.ofString (bltNm b)) (hg : Gl X x)
    (hs : (e :: es).all noStar = true) (ha : PA X (e :: es) (tRs p xs)) : PE X (.Call (.Name x q) (e :: es) [] pos) (tF p (.blt b xs)) := by
  have hc := g.calm hk
  subst hx
  cases b <;> first | exact Bool.noConfusion hb | skip
  · exact pe_blt2 ok_len hg (g.blt "len" (by decide)) (by decide +kernel) (by decide) (by decide) hs ha
  · exact pe_blt2 (ok_all hc) hg (g.blt "all" (by decide)) (by decide +kernel) (by decide) (by decide) hs ha
  · exact pe_blt2 (ok_any hc) hg (g.blt "any" (by decide)) (by decide +kernel) (by decide) (by decide) hs ha
  · exact pe_blt2 (ok_sum hc) hg (g.blt "sum" (by decide)) (by decide +kernel) (by decide) (by decide) hs ha
  · exact pe_blt2 (ok_min2 hc) hg (g.blt "min" (by decide)) (by decide +kernel) (by decide) (by decide) hs ha
  · exact pe_blt2 (ok_max2 hc) hg (g.blt "max" (by decide)) (by decide +kernel) (by decide) (by decide) hs ha
  · exact pe_bltT2 ok_int hg (g.blt "int" (by decide)) (by decide +kernel) (by decide) (by decide) hs ha
  · exact pe_bltT2 ok_list hg (g.blt "list" (by decide)) (by decide +kernel) (by decide) (by decide) hs ha
  · exact pe_bltT2 ok_tuple hg (g.blt "tuple" (by decide)) (by decide +kernel) (by decide) (by decide) hs ha
  · exact pe_blt2 ok_ord hg (g.blt "ord" (by decide)) (by decide +kernel) (by decide) (by decide) hs ha
  · exact pe_blt2 ok_abs hg (g.blt "abs" (by decide)) (by decide +kernel) (by decide) (by decide) hs ha
theorem mth_ok {p : Pm} {f : Mth} (hf : mthHave f = true) {nm : Str} {o e : Expr} {es : List Expr} {ap pos : Pos} {x : E} {xs : List E} (hn : nm = Str.ofString (mthNm f)) (hbase : attributeBase o nm X.env (eval o X.env) = eval o X.env) (hline : (ap.endLine == pos.line) = true)
    (hl : es.length < 20) (hs : (e :: es).all noStar = true) (ho : PE X o (tR p x)) (ha : PA X (e :: es) (tRs p xs)) : PE X (.Call (.Attribute o nm ap) (e :: es) [] pos) (tF p (.mth f x xs)) := by
  subst hn
  cases f <;> first | exact Bool.noConfusion hf | skip
  · exact pe_mth2 PySem.F.plainAttrs_str PySem.F.slot_str_find PySem.F.type_str_find ok_find1 (fun h ht => ty_str (fun _ => rfl) h ht) hbase hline hl hs ho ha
  · exact pe_mth2 PySem.F.plainAttrs_str PySem.F.slot_str_find PySem.F.type_str_find ok_find2 (fun h ht => ty_str (fun _ => rfl) h ht) hbase hline hl hs ho ha
  · exact pe_mth2 PySem.F.plainAttrs_str PySem.F.slot_str_join PySem.F.type_str_join ok_join (fun h ht => ty_str (fun _ => rfl) h ht) hbase hline hl hs ho ha
theorem relS_loc {sc scope : Scope} {x : Str} (h : scope.names.lookup x = some .local ∨ scope.names.lookup x = some .cell) : (relS scope sc).names.lookup x = scope.names.lookup x := by
  rcases h with h | h
  · rw [h]; exact lookup_relS_keep (by simp) h
  · rw [h]; exact lookup_relS_keep (by simp) h
theorem GX.blk {k : Ck} {p : Pm} (g : GX G wf n k p X) (hk : k.hot = false) (scope : Scope) (s : Shared) (H : Hp) (C : Addr) (cl : List (Str × Addr)) (fp : List Addr) : GX G wf n (blkK k scope) p.calm (X.blk s H scope (compEnvC scope cl C X.env) fp) where
  hG := g.hG
  v := g.v
  N := g.N
  sc := by
    show relabel scope X.env = relS scope k.sc
    rw [← g.sc]
    rfl
  nd := g.nd
  un := g.un
  room := fun _ => g.room hk
  calm := fun _ => g.calm hk
  tk := takes0
  loc := fun x hx => by
    have hx : (match scope.names.lookup x with
      | some .local => true
      | some .cell => true
      | _ => false) = true := hx
    have h2 : scope.names.lookup x = some .local ∨ scope.names.lookup x = some .cell := by
      split at hx <;> first | exact .inl (by assumption) | exact .inr (by assumption) | cases hx
    have e : (relabel scope X.env).names.lookup x = scope.names.lookup x := relS_loc (sc := X.env.scope) h2
    refine ⟨?_, ?_⟩
    · show (relabel scope X.env).names.lookup x = _ ∨ (relabel scope X.env).names.lookup x = _
      rw [e]; exact h2
    · rcases h2 with h2 | h2
      · right
        show (relabel scope X.env).names.lookup x = _
        rw [e]; exact h2
      · left
        show (scope.names.lookup x == some .cell) = true
        rw [h2]; rfl
  fns := g.fns
  blt := g.blt
  gl := g.gl
theorem isTup_of {e : Expr} (h : isTupE e = true) : ∃ es k pos, e = .Tuple es k pos := by
  cases e <;> first | exact ⟨_, _, _, rfl⟩ | exact Bool.noConfusion h

theorem plainT_of {e : Expr} (h : match e with | .UnaryOp .Not _ _ | .BoolOp .. | .IfExp .. | .Compare .. => False | _ => True) : PlainT e := by
  refine ⟨fun env whole => ?_, fun op vs pos z => by subst z; exact h⟩
  cases e <;> first | rfl | exact h.elim | skip
  rename_i op x pos
  cases op <;> first | rfl | exact h.elim
theorem band {a b : Bool} (h : (a && b) = true) : a = true ∧ b = true := by simpa using h
theorem bnot {a : Bool} (h : (!a) = true) : a = false := by simpa using h
mutual
theorem snd : ∀ (a : E) (k : Ck) (p : Pm) (X : Cx) (e : Expr), GX G wf n k p X → chk a k e = true → Snd G p X a e
  | .var i, k, p, X, e, g, h => by
    unfold chk at h
    split at h
    · exact .mk' rfl (pe_varE g.N g.sc h) (pe_varR g.N g.sc h) fun _ => ⟨pt_E (pe_varE g.N g.sc h) (plainT_of trivial), fun _ _ _ z => nomatch z⟩
    · cases h
  | .lit d, k, p, X, e, g, h => by
    unfold chk at h
    split at h
    · exact .ofE rfl (fun _ z => nomatch z) rfl (plainT_of trivial) (lit_ok h)
    · cases h
  | .glob x d, k, p, X, e, g, h => by
    unfold chk at h
    split at h
    · obtain ⟨h, h4⟩ := band h
      obtain ⟨h, h3⟩ := band h
      obtain ⟨h1, h2⟩ := band h
      exact .ofE rfl (fun _ z => nomatch z) rfl (plainT_of trivial) (glob_ok g (of_decide_eq_true h1) (glB_ok g.sc h2) h3 (bnot h4))
    · cases h
  | .bin op a b, k, p, X, e, g, h => by
    unfold chk at h
    split at h
    · obtain ⟨h, h5⟩ := band h
      obtain ⟨h, h4⟩ := band h
      obtain ⟨h, h3⟩ := band h
      obtain ⟨h1, h2⟩ := band h
      exact .ofF rfl (fun _ z => nomatch z) rfl (plainT_of trivial) (pe_bin2 (ok_bop h1) ((snd a k p X _ g h4).pr (bnot h2)) ((snd b k p X _ g h5).pr (bnot h3)))
    · cases h
  | .neg a, k, p, X, e, g, h => by
    unfold chk at h
    split at h
    · obtain ⟨h1, h2⟩ := band h
      exact .ofF rfl (fun _ z => nomatch z) rfl (plainT_of trivial) (pe_neg2 ((snd a k p X _ g h2).toE (bnot h1)))
    · cases h
  | .cmp op a b, k, p, X, e, g, h => by
    unfold chk at h
    split at h
    · obtain ⟨h, h6⟩ := band h
      obtain ⟨h, h5⟩ := band h
      obtain ⟨h, h4⟩ := band h
      obtain ⟨h, h3⟩ := band h
      obtain ⟨h1, h2⟩ := band h
      have ra := (snd a k p X _ g h5).pr (bnot h2)
      have rb := (snd b k p X _ g h6).pr (bnot h3)
      have q := pe_cmp2 (pos := by assumption) (ok_cop g.un h1) ra rb (bnot h4)
      exact .mk' rfl q (R_of_F (fun _ z => nomatch z) q) fun _ => ⟨pt_cmp2 (ok_cop g.un h1) ra rb (bnot h4), fun _ _ _ z => nomatch z⟩
    · cases h
  | .chain op op' a b c, k, p, X, e, g, h => by
    unfold chk at h
    split at h
    · obtain ⟨h, h9⟩ := band h
      obtain ⟨h, h8⟩ := band h
      obtain ⟨h, h7⟩ := band h
      obtain ⟨h, h6⟩ := band h
      obtain ⟨h, h5⟩ := band h
      obtain ⟨h, h4⟩ := band h
      obtain ⟨h, h3⟩ := band h
      obtain ⟨h1, h2⟩ := band h
      have ra := (snd a k p X _ g h7).pr (bnot h3)
      have rb := (snd b k p X _ g h8).pr (bnot h4)
      have rc := (snd c k p X _ g h9).pr (bnot h5)
      have q := pe_chain2 (pos := by assumption) (ok_cop g.un h1) (ok_cop g.un h2) ra rb rc (bnot h6)
      exact .mk' rfl q (R_of_F (fun _ z => nomatch z) q) fun _ => ⟨pt_chain2 (ok_cop g.un h1) (ok_cop g.un h2) ra rb rc (bnot h6), fun _ _ _ z => nomatch z⟩
    · cases h
  | .and a b, k, p, X, e, g, h => by
    unfold chk at h
    split at h
    · rename_i x y r pos
      obtain ⟨h, h6⟩ := band h
      obtain ⟨h, h5⟩ := band h
      obtain ⟨h, h4⟩ := band h
      obtain ⟨h, h3⟩ := band h
      obtain ⟨h1, h2⟩ := band h
      have sa := snd a k p X _ g h5
      have ta := (sa.pt (bnot h1) (bnot h3)).1
      have fin : (PE X (.BoolOp .And (y :: r) pos) (tE p b)) → PW X (.BoolOp .And (y :: r) pos) (tT p b) → Snd G p X (.and a b) (.BoolOp .And (x :: y :: r) pos) := fun e1 e2 =>
        have q := pe_and2 (sa.toE (bnot h1)) e1
        have w := pw_and2 ta e2
        .mk' rfl q (R_of_E (fun _ z => nomatch z) q) fun _ => ⟨w.pt, fun _ _ _ z => by cases z; exact w⟩
      cases r with
      | nil =>
        have sb := snd b k p X _ g h6
        exact fin (pe_one (sb.toE (bnot h2))) (pw_and1 (sb.pt (bnot h2) (bnot h4)).1)
      | cons z r =>
        have sb := snd b k p X _ g h6
        exact fin (sb.toE (bnot h2)) ((sb.pt (bnot h2) (bnot h4)).2 _ _ _ rfl)
    · cases h
  | .or a b, k, p, X, e, g, h => by
    unfold chk at h
    split at h
    · rename_i x y r pos
      obtain ⟨h, h6⟩ := band h
      obtain ⟨h, h5⟩ := band h
      obtain ⟨h, h4⟩ := band h
      obtain ⟨h, h3⟩ := band h
      obtain ⟨h1, h2⟩ := band h
      have sa := snd a k p X _ g h5
      have ta := (sa.pt (bnot h1) (bnot h3)).1
      have fin : (PE X (.BoolOp .Or (y :: r) pos) (tE p b)) → PW X (.BoolOp .Or (y :: r) pos) (tT p b) → Snd G p X (.or a b) (.BoolOp .Or (x :: y :: r) pos) := fun e1 e2 =>
        have q := pe_or2 (sa.toE (bnot h1)) e1
        have w := pw_or2 ta e2
        .mk' rfl q (R_of_E (fun _ z => nomatch z) q) fun _ => ⟨w.pt, fun _ _ _ z => by cases z; exact w⟩
      cases r with
      | nil =>
        have sb := snd b k p X _ g h6
        exact fin (pe_one (sb.toE (bnot h2))) (pw_or1 (sb.pt (bnot h2) (bnot h4)).1)
      | cons z r =>
        have sb := snd b k p X _ g h6
        exact fin (sb.toE (bnot h2)) ((sb.pt (bnot h2) (bnot h4)).2 _ _ _ rfl)
    · cases h
  | .not a, k, p, X, e, g, h => by
    unfold chk at h
    split at h
    · obtain ⟨h, h3⟩ := band h
      obtain ⟨h1, h2⟩ := band h
      have sa := snd a k p X _ g h3
      have q := pe_not2 (pos := by assumption) (sa.toE (bnot h1))
      exact .mk' rfl q (R_of_F (fun _ z => nomatch z) q) fun _ => ⟨pt_not2 (sa.pt (bnot h1) (bnot h2)).1, fun _ _ _ z => nomatch z⟩
    · cases h
  | .ite c a b, k, p, X, e, g, h => by
    unfold chk at h
    split at h
    · obtain ⟨h, h7⟩ := band h
      obtain ⟨h, h6⟩ := band h
      obtain ⟨h, h5⟩ := band h
      obtain ⟨h, h4⟩ := band h
      obtain ⟨h, h3⟩ := band h
      obtain ⟨h1, h2⟩ := band h
      have sc := snd c k p X _ g h5
      have sa := snd a k p X _ g h6
      have sb := snd b k p X _ g h7
      have tc := (sc.pt (bnot h1) (bnot h2)).1
      have q0 := pe_ite2 (pos := by assumption) PV.anti tc (sa.toE (bnot h3)) (sb.toE (bnot h4))
      refine .mk' rfl ?_ (R_of_E (fun _ z => nomatch z) q0) fun z => nomatch z
      cases hf : frE G (.ite c a b) with
      | false => exact q0
      | true =>
        obtain ⟨f1, f2⟩ := band (show (frE G a && frE G b) = true from hf)
        have ea := sa.pe (bnot h3)
        have eb := sb.pe (bnot h4)
        rw [f1] at ea
        rw [f2] at eb
        exact pe_ite2 PF.anti tc ea eb
    · cases h
  | .tup es, k, p, X, e, g, h => by
    unfold chk at h
    split at h
    · obtain ⟨h1, h2⟩ := band h
      exact .ofF rfl (fun _ z => nomatch z) rfl (plainT_of trivial) (pe_tup2 (of_decide_eq_true h1) (snds es k p X _ g h2).1)
    · cases h
  | .lst es, k, p, X, e, g, h => by
    unfold chk at h
    split at h
    · obtain ⟨h1, h2⟩ := band h
      exact .ofF rfl (fun _ z => nomatch z) rfl (plainT_of trivial) (pe_lst2 (of_decide_eq_true h1) (snds es k p X _ g h2).1)
    · cases h
  | .tupS es, k, p, X, e, g, h => by
    unfold chk at h
    split at h
    · exact .ofF rfl (fun _ z => nomatch z) rfl (plainT_of trivial) (pe_tupS2 (sndS es k p X _ g h))
    · cases h
  | .lstS es, k, p, X, e, g, h => by
    unfold chk at h
    split at h
    · exact .ofF rfl (fun _ z => nomatch z) rfl (plainT_of trivial) (pe_lstS2 (sndS es k p X _ g h))
    · cases h
  | .idx a i, k, p, X, e, g, h => by
    unfold chk at h
    split at h
    · obtain ⟨h, h5⟩ := band h
      obtain ⟨h, h4⟩ := band h
      obtain ⟨h, h3⟩ := band h
      obtain ⟨h1, h2⟩ := band h
      exact .ofE rfl (fun _ z => nomatch z) rfl (plainT_of trivial) (pe_idx2 (plainIx h1) ((snd a k p X _ g h4).pr (bnot h2)) ((snd i k p X _ g h5).toE (bnot h3)))
    · cases h
  | .slc a lo hi, k, p, X, e, g, h => by
    unfold chk at h
    split at h
    · rename_i x l hh p2 pos
      obtain ⟨h, h6⟩ := band h
      obtain ⟨h, h5⟩ := band h
      obtain ⟨h, h4⟩ := band h
      obtain ⟨h, h3⟩ := band h
      obtain ⟨h1, h2⟩ := band h
      have pl : PO X l (tO p lo) := by
        cases l with
        | none =>
          cases lo <;> first | exact po_none2 | exact Bool.noConfusion h5
        | some l =>
          obtain ⟨n1, c1⟩ := band h5
          have n2 : lo ≠ .omit := by rintro rfl; exact Bool.noConfusion n1
          exact po_some2 n2 ((snd lo k p X _ g c1).toE (bnot h2))
      have ph : PO X hh (tO p hi) := by
        cases hh with
        | none =>
          cases hi <;> first | exact po_none2 | exact Bool.noConfusion h6
        | some l =>
          obtain ⟨n1, c1⟩ := band h6
          have n2 : hi ≠ .omit := by rintro rfl; exact Bool.noConfusion n1
          exact po_some2 n2 ((snd hi k p X _ g c1).toE (bnot h3))
      exact .ofF rfl (fun _ z => nomatch z) rfl (plainT_of trivial) (pe_slc2 ((snd a k p X _ g h4).pr (bnot h1)) pl ph)
    · cases h
  | .call f es, k, p, X, e, g, h => by
    unfold chk at h
    split at h
    · rename_i x q0 y ys pos0
      obtain ⟨h, h6⟩ := band h
      obtain ⟨h, h5⟩ := band h
      obtain ⟨h, h4⟩ := band h
      obtain ⟨h, h3⟩ := band h
      obtain ⟨h1, h2⟩ := band h
      rw [g.hG] at h3
      obtain ⟨d, hd⟩ := Option.isSome_iff_exists.mp h3
      obtain ⟨pa, _, ns⟩ := snds es k p X _ g h6
      have q := pe_call2 (q := q0) (pos := pos0) g (bnot h4) hd (of_decide_eq_true h1) (glB_ok g.sc h2) (bnot h5) ns pa
      have hf : frE G (.call f es) = d.fresh := by simp only [frE, hd]
      cases hb : d.fresh with
      | false => rw [hb] at q hf; exact .ofE rfl (fun _ z => nomatch z) hf (plainT_of trivial) q
      | true => rw [hb] at q hf; exact .ofF rfl (fun _ z => nomatch z) hf (plainT_of trivial) q
    · cases h
  | .blt b es, k, p, X, e, g, h => by
    unfold chk at h
    split at h
    · obtain ⟨h, h5⟩ := band h
      obtain ⟨h, h4⟩ := band h
      obtain ⟨h, h3⟩ := band h
      obtain ⟨h1, h2⟩ := band h
      obtain ⟨_, pr, ns⟩ := snds es k p X _ g h5
      exact .ofF rfl (fun _ z => nomatch z) rfl (plainT_of trivial) (blt_ok g (bnot h4) h3 (of_decide_eq_true h1) (glB_ok g.sc h2) ns pr)
    · cases h
  | .isi a ts, k, p, X, e, g, h => by
    unfold chk at h
    split at h
    · rename_i x q y z pos
      obtain ⟨h, h7⟩ := band h
      obtain ⟨h, h6⟩ := band h
      obtain ⟨h, h5⟩ := band h
      obtain ⟨h, h4⟩ := band h
      obtain ⟨h, h3⟩ := band h
      obtain ⟨h1, h2⟩ := band h
      have ra := (snd a k p X _ g h6).pr (bnot h4)
      refine .ofF rfl (fun _ z => nomatch z) rfl (plainT_of trivial) ?_
      split at h7
      · exact pe_isiN g (of_decide_eq_true h1) (glB_ok g.sc h2) h3 (of_decide_eq_true h5) ra h7
      · split at h7
        · exact pe_isi1 g (of_decide_eq_true h1) (glB_ok g.sc h2) h3 ra h7
        · cases h7
    · cases h
  | .mth f o es, k, p, X, e, g, h => by
    unfold chk at h
    split at h
    · obtain ⟨h, h8⟩ := band h
      obtain ⟨h, h7⟩ := band h
      obtain ⟨h, h6⟩ := band h
      obtain ⟨h, h5⟩ := band h
      obtain ⟨h, h4⟩ := band h
      obtain ⟨h, h3⟩ := band h
      obtain ⟨h1, h2⟩ := band h
      obtain ⟨_, pr, ns⟩ := snds es k p X _ g h8
      exact .ofF rfl (fun _ z => nomatch z) rfl (plainT_of trivial) (mth_ok h3 (of_decide_eq_true h1) (attr_base h4) h2 (of_decide_eq_true h6) ns ((snd o k p X _ g h7).pr (bnot h5)) pr)
    · cases h
  | .lc t it c el, k, p, X, e, g, h => by
    unfold chk at h
    split at h
    · rename_i elt tg iter ifs scope pos
      obtain ⟨h, h10⟩ := band h
      obtain ⟨h, h9⟩ := band h
      obtain ⟨h, h8⟩ := band h
      obtain ⟨h, h7⟩ := band h
      obtain ⟨h, h6⟩ := band h
      obtain ⟨h, h5⟩ := band h
      obtain ⟨h, h4⟩ := band h
      obtain ⟨h, h3⟩ := band h
      obtain ⟨h1, h2⟩ := band h
      have hk := bnot h1
      have hi : PI X tg iter (tI p it) := by
        have s := snd it k p X _ g h4
        cases hn : needTup it with
        | true =>
          rw [hn] at h2
          obtain ⟨es, kk, tp, rfl⟩ := isTup_of (show isTupE tg = true from h2)
          exact s.piT hn es kk tp
        | false =>
          cases hi : isIt it with
          | true => exact s.pi hi hn tg
          | false => exact pi_any (s.toE hi)
      have hvs : ∀ i, i ∈ idxT t ↔ i ∈ (ownOf k.N scope).map (·.2) := by
        obtain ⟨z1, z2⟩ := band h7
        rw [List.all_eq_true] at z1 z2
        exact fun i => ⟨fun hm => by simpa using z1 i hm, fun hm => by simpa using z2 i hm⟩
      have nd : X.N.Nodup := g.nd
      have ok : BlkOk X.N X.env.scope scope (ownOf k.N scope) := by rw [g.N, g.sc]; exact blkOk_by h6
      refine .ofF rfl (fun _ z => nomatch z) rfl (plainT_of trivial) (weakE (pe_lc (g.calm hk) nd hi ok (fun s H C cl fp => ?_) (fun s H C cl fp => ?_) (fun s H C cl fp => ?_) (folded h3)) fun σ H Q q => lc_of (K := X.K) hvs q)
      · have gb := g.blk hk scope s H C cl fp
        exact pg_ok (k := blkK k scope) (gb.calm hk) gb.N gb.nd gb.loc t tg h5
      · have gb := g.blk hk scope s H C cl fp
        split at h10
        · cases c <;> first | exact pts_nil | exact Bool.noConfusion h10
        · obtain ⟨h10, d4⟩ := band h10
          obtain ⟨h10, d3⟩ := band h10
          obtain ⟨d1, d2⟩ := band h10
          have e : tCnd p.calm c = tT p.calm c := by cases c <;> first | rfl | exact Bool.noConfusion d1
          rw [e]
          exact pts_one ((snd c _ _ _ _ gb d4).pt (bnot d2) (bnot d3)).1
        · cases h10
      · have gb := g.blk hk scope s H C cl fp
        exact (snd el _ _ _ _ gb h9).toE (bnot h8)
    · cases h
  | .rng1 a, k, p, X, e, g, h => by
    unfold chk at h
    split at h
    · obtain ⟨h, h5⟩ := band h
      obtain ⟨h, h4⟩ := band h
      obtain ⟨h, h3⟩ := band h
      obtain ⟨h1, h2⟩ := band h
      have hx := of_decide_eq_true h1
      subst hx
      have ea := (snd a k p X _ g h5).toE (bnot h4)
      exact ⟨fun z => (nomatch z), fun z => (nomatch z), fun z => (nomatch z), fun _ _ tg => pi_rng1 (glB_ok g.sc h2) (g.blt "range" (by decide)) h3 ea, fun z => nomatch z⟩
    · cases h
  | .rng2 a b, k, p, X, e, g, h => by
    unfold chk at h
    split at h
    · obtain ⟨h, h8⟩ := band h
      obtain ⟨h, h7⟩ := band h
      obtain ⟨h, h6⟩ := band h
      obtain ⟨h, h5⟩ := band h
      obtain ⟨h, h4⟩ := band h
      obtain ⟨h, h3⟩ := band h
      obtain ⟨h1, h2⟩ := band h
      have hx := of_decide_eq_true h1
      subst hx
      have ea := (snd a k p X _ g h7).toE (bnot h5)
      have eb := (snd b k p X _ g h8).toE (bnot h6)
      exact ⟨fun z => (nomatch z), fun z => (nomatch z), fun z => (nomatch z), fun _ _ tg => pi_rng2 (glB_ok g.sc h2) (g.blt "range" (by decide)) h3 h4 ea eb, fun z => nomatch z⟩
    · cases h
  | .zip a b, k, p, X, e, g, h => by
    unfold chk at h
    split at h
    · obtain ⟨h, h8⟩ := band h
      obtain ⟨h, h7⟩ := band h
      obtain ⟨h, h6⟩ := band h
      obtain ⟨h, h5⟩ := band h
      obtain ⟨h, h4⟩ := band h
      obtain ⟨h, h3⟩ := band h
      obtain ⟨h1, h2⟩ := band h
      have hx := of_decide_eq_true h1
      subst hx
      have ea := (snd a k p X _ g h7).toE (bnot h5)
      have eb := (snd b k p X _ g h8).toE (bnot h6)
      exact ⟨fun z => (nomatch z), fun z => (nomatch z), fun z => (nomatch z), fun _ z => (nomatch z), fun _ elts kk tpos => pi_zip2 (glB_ok g.sc h2) (g.blt "zip" (by decide)) h3 h4 ea eb⟩
    · cases h
  | .omit, k, p, X, e, g, h => by unfold chk at h; cases h
  | .star _, k, p, X, e, g, h => by unfold chk at h; cases h
  | .rev _, k, p, X, e, g, h => by unfold chk at h; cases h
  | .callK _ _ _ _, k, p, X, e, g, h => by unfold chk at h; cases h
  | .isx _ _, k, p, X, e, g, h => by unfold chk at h; cases h
  | .enum _, k, p, X, e, g, h => by unfold chk at h; cases h
theorem snds : ∀ (a : List E) (k : Ck) (p : Pm) (X : Cx) (e : List Expr), GX G wf n k p X → chks a k e = true → PA X e (tAs p a) ∧ PA X e (tRs p a) ∧ e.all noStar = true
  | [], k, p, X, e, g, h => by
    unfold chks at h
    rw [List.isEmpty_iff] at h
    subst h
    exact ⟨pa_nil2, pr_nil2, rfl⟩
  | a :: as, k, p, X, e, g, h => by
    unfold chks at h
    cases e with
    | nil => cases h
    | cons e es =>
      obtain ⟨h, h4⟩ := band h
      obtain ⟨h, h3⟩ := band h
      obtain ⟨h1, h2⟩ := band h
      have s := snd a k p X _ g h3
      obtain ⟨t1, t2, t3⟩ := snds as k p X _ g h4
      exact ⟨pa_cons2 h1 (s.toE (bnot h2)) t1, pr_cons2 h1 (s.pr (bnot h2)) t2, by simp [h1, t3]⟩
theorem sndS : ∀ (a : List E) (k : Ck) (p : Pm) (X : Cx) (e : List Expr), GX G wf n k p X → chkS a k e = true → PA X e (tSs p a)
  | [], k, p, X, e, g, h => by
    unfold chkS at h
    rw [List.isEmpty_iff] at h
    subst h
    exact ps_nil2
  | .star a :: as, k, p, X, e, g, h => by
    unfold chkS at h
    split at h
    · obtain ⟨h, h3⟩ := band h
      obtain ⟨h1, h2⟩ := band h
      exact ps_star2 ((snd a k p X _ g h2).pr (bnot h1)) (sndS as k p X _ g h3)
    · cases h
  | a :: as, k, p, X, e, g, h => by
    by_cases hx : ∃ y, a = .star y
    · obtain ⟨y, rfl⟩ := hx
      unfold chkS at h
      split at h
      · obtain ⟨h, h3⟩ := band h
        obtain ⟨h1, h2⟩ := band h
        exact ps_star2 ((snd y k p X _ g h2).pr (bnot h1)) (sndS as k p X _ g h3)
      · cases h
    · have e2 : chkS (a :: as) k e = match e with
        | e :: es => noStar e && !isIt a && chk a k e && chkS as k es
        | [] => false := by
        cases a <;> first | (exfalso; exact hx ⟨_, rfl⟩) | (cases e <;> simp only [chkS])
      rw [e2] at h
      cases e with
      | nil => cases h
      | cons e es =>
        obtain ⟨h, h4⟩ := band h
        obtain ⟨h, h3⟩ := band h
        obtain ⟨h1, h2⟩ := band h
        exact ps_cons2 (fun y z => hx ⟨y, z⟩) h1 ((snd a k p X _ g h3).toE (bnot h2)) (sndS as k p X _ g h4)
end
end Lt

set_option Elab.async false
set_option linter.all false
set_option maxRecDepth 100000
set_option maxHeartbeats 8000000
/-! Lt13: statements: what is asked, the steps. -/
namespace Lt
open PySem PySem.Spec PyProof.Rows L2
variable {F F' F1 F2 : Hp} {m m' m1 m2 : List Addr} {H H' H1 H2 B : Hp} {mem mem' mem1 mem2 : Mem} {X : Cx} {G : Tab} {wf n : Nat}

/-- a def's entry -/
structure En where
  F : Hp
  m : List Addr
  fr : Bool
structure Rel (p : Pm) (n0 : En) (F : Hp) (m : List Addr) (sl : Sl) (mem : Mem) (σ : L2.St) (H : Hp) : Prop where
  st : Step n0.F n0.m p.B F m H
  co : Core F m mem H
  sl : Slots p.B F m H p.xa sl σ
structure Gr (F : Hp) (m : List Addr) (F' : Hp) (m' : List Addr) : Prop where
  sub : ∀ a o, F a = some o → F' a = some o
  mm : ∃ new, m' = m ++ new
theorem Gr.refl : Gr F m F m := ⟨fun _ _ h => h, [], by simp⟩
theorem Gr.trans (h : Gr F m F1 m1) (h' : Gr F1 m1 F2 m2) : Gr F m F2 m2 := by
  obtain ⟨s1, n1, e1⟩ := h
  obtain ⟨s2, n2, e2⟩ := h'
  exact ⟨fun a o q => s2 a o (s1 a o q), n1 ++ n2, by rw [e2, e1, List.append_assoc]⟩
theorem Step.gr (s : Step F m H F' m' H') : Gr F m F' m' := ⟨s.sub, let ⟨n, e, _⟩ := s.mm; ⟨n, e⟩⟩
theorem Rel.step {p : Pm} {n0 : En} {sl : Sl} {σ : L2.St} (r : Rel p n0 F m sl mem σ H) (s : Step F m H F' m' H') (c : Core F' m' mem' H') : Rel p n0 F' m' sl mem' σ H' := ⟨r.st.trans s, c, r.sl.step s⟩
/-- what is asked of a statement -/
def ResS (p : Pm) (n0 : En) (F : Hp) (m : List Addr) (De : Ends) : RS → Prop
  | .ok .nx sl mem => ∀ F' m' H' σ', Gr F m F' m' → Rel p n0 F' m' sl mem σ' H' → De.nx σ' H'
  | .ok .brk sl mem => ∀ F' m' H' σ', Gr F m F' m' → Rel p n0 F' m' sl mem σ' H' → De.bk σ' H'
  | .ok .cnt sl mem => ∀ F' m' H' σ', Gr F m F' m' → Rel p n0 F' m' sl mem σ' H' → De.ct σ' H'
  | .ok (.ret d) _ mem => ∀ F' m' H' v, Step n0.F n0.m p.B F' m' H' → Core F' m' mem H' → rlF n0.fr p.B F' m' H' d v → De.rt v H'
  | .exc x sl mem => ∀ c d F' m' H' σ', Gr F m F' m' → Rel p n0 F' m' sl mem σ' H' → p.xr x c d H' → p.W c d σ' H'
  | .stuck => False
def tS (p : Pm) (n0 : En) (f : Sl → Mem → RS) : TS := fun De σ H => ∃ F m sl mem, Rel p n0 F m sl mem σ H ∧ ResS p n0 F m De (f sl mem)
variable {p : Pm} {n0 : En} {sl sl' : Sl} {σ : L2.St} {De : Ends}
theorem ResS.gr {r : RS} (g : Gr F m F1 m1) (h : ResS p n0 F m De r) : ResS p n0 F1 m1 De r := by
  match r, h with
  | .ok .nx sl mem, h => exact fun F' m' H' σ' g' r => h F' m' H' σ' (g.trans g') r
  | .ok .brk sl mem, h => exact fun F' m' H' σ' g' r => h F' m' H' σ' (g.trans g') r
  | .ok .cnt sl mem, h => exact fun F' m' H' σ' g' r => h F' m' H' σ' (g.trans g') r
  | .ok (.ret d) sl mem, h => exact h
  | .exc x sl mem, h => exact fun c d F' m' H' σ' g' r => h c d F' m' H' σ' (g.trans g') r
  | .stuck, h => exact h
/-- one evaluation, then what follows -/
theorem ResS.st {α β : Type} {P : Rl α β} {r : Lt.R α} {f : α → Mem → RS} (rel : Rel p n0 F m sl mem σ H) (h : ResS p n0 F m De (r.st sl f)) :
    Res p.xr P F m H (fun c d H' => p.W c d σ H') (fun b H1 => ∃ F1 m1 a mem1, Rel p n0 F1 m1 sl mem1 σ H1 ∧ Step F m H F1 m1 H1 ∧ P H F1 m1 H1 a b ∧ ResS p n0 F1 m1 De (f a mem1)) r := by
  cases r with
  | ok a mem' => exact fun b F' m' H' s c q => ⟨F', m', a, mem', rel.step s c, s, q, ResS.gr s.gr h⟩
  | exc x mem' => exact fun c d F' m' H' s k q => h c d F' m' H' σ s.gr (rel.step s k) q
  | stuck => exact h
theorem tS.st {α β : Type} {P : Rl α β} {r : Sl → Mem → Lt.R α} {f : Sl → α → Mem → RS} (h : tS p n0 (fun sl m => (r sl m).st sl (f sl)) De σ H) :
    tG p P r σ H fun b H1 => ∃ (F : Hp) (m : List Addr) (H0 F1 : Hp) (m1 : List Addr) (sl : Sl) (a : α) (mem1 : Mem), Rel p n0 F1 m1 sl mem1 σ H1 ∧ Slots p.B F m H0 p.xa sl σ ∧ Step n0.F n0.m p.B F m H0 ∧ Step F m H0 F1 m1 H1 ∧ P H0 F1 m1 H1 a b ∧ ResS p n0 F1 m1 De (f sl a mem1) := by
  obtain ⟨F, m, sl, mem, rel, r⟩ := h
  exact ⟨F, m, sl, mem, rel.co, rel.sl, (ResS.st rel r).mono fun b H1 ⟨F1, m1, a, mem1, rel1, s, q, r1⟩ => ⟨F, m, H, F1, m1, sl, a, mem1, rel1, rel.sl, rel.st, s, q, r1⟩⟩
theorem weakS {st : Stmt} {t t' : TS} (h : PS X st t) (hh : ∀ De σ H, t' De σ H → t De σ H) : PS X st t' := ⟨fun pins s σ H De I q => h.run pins s σ H De I (hh De σ H q)⟩
theorem weakB {st : List Stmt} {t t' : TS} (h : PSs X st t) (hh : ∀ De σ H, t' De σ H → t De σ H) : PSs X st t' := ⟨fun pins s σ H De I q => h.run pins s σ H De I (hh De σ H q)⟩
theorem ResS.andThen {r : RS} {f : Sl → Mem → RS} (h : ResS p n0 F m De (r.andThen f)) : ResS p n0 F m { De with nx := tS p n0 f De } r := by
  match r, h with
  | .ok .nx sl mem, h => exact fun F' m' H' σ' g rel => ⟨F', m', sl, mem, rel, ResS.gr g h⟩
  | .ok .brk sl mem, h => exact h
  | .ok .cnt sl mem, h => exact h
  | .ok (.ret d) sl mem, h => exact h
  | .exc x sl mem, h => exact h
  | .stuck, h => exact h.elim

/-! ### slots -/
theorem Rel.set {d : D} {v : V} (r : Rel p n0 F m sl mem σ H) {i : Nat} (h : VD F m d v) : Rel p n0 F m (setS sl i (.val d)) mem (σ.set i (some v)) H := ⟨r.st, r.co, r.sl.set h⟩
theorem SlotR.live {v : SV} {o : Option (Option V)} {xa : Option Addr} {d : D} (h : SlotR B F m H xa v o) (e : v = .own d) : ∃ a, o = some (some (.ref a)) ∧ H a ≠ none := by
  subst e
  obtain ⟨a, e, _, _, _, h⟩ := h
  exact ⟨a, e, h.some⟩
theorem Slots.setOwn {xa : Option Addr} {i : Nat} {d : D} {q : Addr} (s0 : Slots B F m H xa sl σ) (s : Slots B F1 m1 H1 xa sl σ) (hp : H q = none) (hB : B q = none) (hF : F1 q = none) (hm : q ∉ m1) (hc : Cont F1 m1 H1 q d) :
    Slots B F1 m1 H1 xa (setS sl i (.own d)) (σ.set i (some (.ref q))) := by
  have live : ∀ {j e}, getS sl j = .own e → σ[j]? ≠ some (some (.ref q)) := fun {j e} h z => by
    obtain ⟨a, h1, h2⟩ := (s0.at_ j).live h
    rw [z] at h1
    cases h1
    exact h2 hp
  refine ⟨by rw [setS_length, List.length_set]; exact s.len, fun j => ?_, fun j k d1 d2 a hjk h1 h2 h3 => ?_⟩
  · rw [getS_setS, set_get, s.len]
    split
    · exact ⟨q, rfl, hF, hm, hB, hc⟩
    · exact s.at_ j
  · rw [getS_setS] at h1 h2
    rw [set_get] at h3 ⊢
    rw [s.len] at h1 h2
    split at h1
    · rename_i n1
      rw [if_pos n1] at h3
      cases h3
      split at h2
      · rename_i n2
        exact absurd (n1.1.trans n2.1.symm) hjk
      · rename_i n2
        rw [if_neg n2]
        exact live h2
    · rename_i n1
      rw [if_neg n1] at h3
      split at h2
      · rename_i n2
        rw [if_pos n2]
        intro z
        cases z
        exact live h1 h3
      · rename_i n2
        rw [if_neg n2]
        exact s.one j k d1 d2 a hjk h1 h2 h3
theorem Step.entryNew {q : Addr} (s : Step F m H F1 m1 H1) (h : H1 q = none) : H q = none := by
  cases e : H q with
  | none => rfl
  | some o => exact absurd h (s.dom q (by rw [e]; simp))
/-- freezing an object that the def made -/
theorem Step.freeze {q : Addr} {o : HO} (s : Step F m H F1 m1 H1) (hq : H q = none) (hF : F1 q = none) : Step F m H (upd F1 q o) m1 H1 := by
  refine ⟨fun a u h => ?_, fun a h h' => ?_, s.mm, s.keep, s.dom⟩
  · rw [upd_ne (ne_of_none (s.sub a u h) hF)]; exact s.sub a u h
  · have : a ≠ q := by rintro rfl; exact h' hq
    rw [upd_ne this]; exact s.fro a h h'
theorem Gr.freeze {q : Addr} {o : HO} (hF : F q = none) : Gr F m (upd F q o) m := ⟨fun a u h => by rw [upd_ne (ne_of_none h hF)]; exact h, [], by simp⟩
theorem VD.grow (g : Gr F m F' m') {d : D} {v : V} (h : VD F m d v) : VD F' m' d v := VD.mono g.sub g.mm _ _ h
theorem VDs.grow (g : Gr F m F' m') {d : List D} {v : List V} (h : VDs F m d v) : VDs F' m' d v := VDs.mono g.sub g.mm _ _ h
theorem Cont.grow (g : Gr F m F' m') {a : Addr} {d : D} (h : Cont F m H a d) : Cont F' m' H a d := by
  cases d with
  | lst xs => obtain ⟨vs, e, h⟩ := h; exact ⟨vs, e, h.grow g⟩
  | _ => exact h.elim
theorem Rel.frz {i : Nat} {d : D} (r : Rel p n0 F m sl mem σ H) (e : getS sl i = .own d) : ∃ F', Gr F m F' m ∧ Rel p n0 F' m (setS sl i (.val d)) mem σ H := by
  have a := r.sl.at_ i
  rw [e] at a
  obtain ⟨q, e1, hF, hm, hB, hc⟩ := a
  cases d with
  | lst xs =>
    obtain ⟨vs, eH, hv⟩ := hc
    have g : Gr F m (upd F q (.lst vs)) m := Gr.freeze hF
    refine ⟨upd F q (.lst vs), g, r.st.freeze hB hF, r.co.freeze eH hF hm, ?_⟩
    have hil := getS_lt (sl := sl) (i := i) (by rw [e]; simp)
    refine ⟨by rw [setS_length]; exact r.sl.len, fun j => ?_, fun j k d1 d2 a hjk h1 h2 h3 => ?_⟩
    · rw [getS_setS]
      split
      · rename_i z
        rw [z.1]
        refine ⟨.ref q, e1, ?_⟩
        simp only [VD]
        exact ⟨q, vs, rfl, upd_same, hv.grow g⟩
      · rename_i z
        have hji : j ≠ i := fun z' => z ⟨z', hil⟩
        have a := r.sl.at_ j
        revert a
        cases ej : getS sl j with
        | no => intro _; trivial
        | exn c => exact fun a => a
        | val d => rintro ⟨v, e2, h⟩; exact ⟨v, e2, h.grow g⟩
        | own d =>
          rintro ⟨b, e2, f2, m2, b2, c2⟩
          have hb : b ≠ q := by
            rintro rfl
            exact r.sl.one i j _ _ _ (Ne.symm hji) e ej e1 e2
          exact ⟨b, e2, by rw [upd_ne hb]; exact f2, m2, b2, c2.grow g⟩
    · rw [getS_setS] at h1 h2
      split at h1
      · cases h1
      · split at h2
        · cases h2
        · exact r.sl.one j k d1 d2 a hjk h1 h2 h3
  | _ => exact hc.elim
/-- an own object is changed -/
theorem Rel.chgOwn {i : Nat} {d d' : D} {q : Addr} {vs : List V} (r : Rel p n0 F m sl mem σ H) (e : getS sl i = .own d) (e1 : σ[i]? = some (some (.ref q))) (h : Cont F m (upd H q (.lst vs)) q d') :
    Rel p n0 F m (setS sl i (.own d')) mem σ (upd H q (.lst vs)) := by
  have a := r.sl.at_ i
  rw [e] at a
  obtain ⟨q', e1', hF, hm, hB, hc⟩ := a
  rw [e1] at e1'
  cases e1'
  refine ⟨r.st.chg hB, r.co.chg hF hm, by rw [setS_length]; exact r.sl.len, fun j => ?_, fun j k d1 d2 a hjk h1 h2 h3 => ?_⟩
  · rw [getS_setS]
    split
    · rename_i z
      rw [z.1]
      exact ⟨q, e1, hF, hm, hB, h⟩
    · rename_i z
      have a := r.sl.at_ j
      revert a
      cases ej : getS sl j with
      | no => intro _; trivial
      | exn c => exact fun a => a
      | val d => exact fun a => a
      | own d2 =>
        rintro ⟨b, e2, f2, m2, b2, c2⟩
        have hil := getS_lt (sl := sl) (i := i) (by rw [e]; simp)
        have hji : j ≠ i := fun z' => z ⟨z', hil⟩
        have hb : b ≠ q := by
          rintro rfl
          exact r.sl.one i j _ _ _ (Ne.symm hji) e ej e1 e2
        refine ⟨b, e2, f2, m2, b2, ?_⟩
        cases d2 with
        | lst xs => obtain ⟨us, e3, h3⟩ := c2; exact ⟨us, by rw [upd_ne hb]; exact e3, h3⟩
        | _ => exact c2.elim
  · rw [getS_setS] at h1 h2
    have hil := getS_lt (sl := sl) (i := i) (by rw [e]; simp)
    have own : ∀ {j d}, (if j = i ∧ i < sl.length then SV.own d' else getS sl j) = .own d → ∃ d, getS sl j = .own d := fun {j d} h => by
      split at h
      · rename_i z; rw [z.1]; exact ⟨_, e⟩
      · exact ⟨_, h⟩
    obtain ⟨d1', h1'⟩ := own h1
    obtain ⟨d2', h2'⟩ := own h2
    exact r.sl.one j k d1' d2' a hjk h1' h2' h3
theorem Step.chgM {q : Addr} {o : HO} (s : Step F m H F1 m1 H1) (hq : q ∈ m1) : Step F m H F1 m1 (upd H1 q o) := by
  refine ⟨s.sub, s.fro, s.mm, fun a u h hm => ?_, fun a h => ?_⟩
  · have : a ≠ q := by
      rintro rfl
      obtain ⟨new, e, hn⟩ := s.mm
      rw [e] at hq
      rcases List.mem_append.mp hq with z | z
      · exact hm z
      · rw [hn _ z] at h; cases h
    rw [upd_ne this]; exact s.keep a u h hm
  · by_cases e : a = q
    · subst e; rw [upd_same]; simp
    · rw [upd_ne e]; exact s.dom a h
theorem Core.chgM {q : Addr} {j : Nat} {d' : D} {vs : List V} (c : Core F m mem H) (hj : m[j]? = some q) (h : Cont F m (upd H q (.lst vs)) q d') : Core F m (mem.set j d') (upd H q (.lst vs)) := by
  have hjl : j < mem.length := by rw [← c.len]; exact (List.getElem?_eq_some_iff.mp hj).1
  have hFq : F q = none := (c.obj j q _ hj (List.getElem?_eq_getElem hjl)).1
  refine ⟨fun a u h => ?_, by rw [List.length_set]; exact c.len, c.nd, fun k a d h1 h2 => ?_⟩
  · rw [upd_ne (ne_of_none h hFq)]; exact c.sub a u h
  · by_cases e : k = j
    · subst e
      rw [hj] at h1
      cases h1
      rw [List.getElem?_set_self hjl] at h2
      cases h2
      exact ⟨hFq, h⟩
    · rw [List.getElem?_set_ne (Ne.symm e)] at h2
      obtain ⟨f, k'⟩ := c.obj k a d h1 h2
      have ne : a ≠ q := by
        rintro rfl
        exact e ((List.getElem?_inj (List.getElem?_eq_some_iff.mp h1).1 c.nd).mp (h1.trans hj.symm))
      refine ⟨f, ?_⟩
      cases d with
      | lst xs => obtain ⟨us, e3, h3⟩ := k'; exact ⟨us, by rw [upd_ne ne]; exact e3, h3⟩
      | _ => exact k'.elim
theorem Rel.chgRef {j : Nat} {d' : D} {q : Addr} {vs : List V} (r : Rel p n0 F m sl mem σ H) (hj : m[j]? = some q) (h : Cont F m (upd H q (.lst vs)) q d') :
    Rel p n0 F m sl (mem.set j d') σ (upd H q (.lst vs)) := by
  have hq : q ∈ m := List.mem_of_getElem? hj
  refine ⟨r.st.chgM hq, r.co.chgM hj h, r.sl.len, fun i => ?_, r.sl.one⟩
  have a := r.sl.at_ i
  revert a
  cases ej : getS sl i with
  | no => intro _; trivial
  | exn c => exact fun a => a
  | val d => exact fun a => a
  | own d2 =>
    rintro ⟨b, e2, f2, m2, b2, c2⟩
    have hb : b ≠ q := by rintro rfl; exact m2 hq
    refine ⟨b, e2, f2, m2, b2, ?_⟩
    cases d2 with
    | lst xs => obtain ⟨us, e3, h3⟩ := c2; exact ⟨us, by rw [upd_ne hb]; exact e3, h3⟩
    | _ => exact c2.elim
/-- a new object of the memory -/
theorem Rel.thaw {i : Nat} {d : D} {q : Addr} (s0 : Slots p.B F m H p.xa sl σ) (sE : Step n0.F n0.m p.B F m H) (r : Rel p n0 F1 m1 sl mem1 σ H1) (hp : H q = none) (hF : F1 q = none) (hm : q ∉ m1) (hc : Cont F1 m1 H1 q d) :
    Rel p n0 F1 (m1 ++ [q]) (setS sl i (.val (.ref mem1.length))) (mem1 ++ [d]) (σ.set i (some (.ref q))) H1 := by
  have g : Gr F1 m1 F1 (m1 ++ [q]) := ⟨fun _ _ h => h, [q], rfl⟩
  have hB : p.B q = none := sE.entryNew hp
  have live : ∀ {j e}, getS sl j = .own e → σ[j]? ≠ some (some (.ref q)) := fun {j e} h z => by
    obtain ⟨a, h1, h2⟩ := (s0.at_ j).live h
    rw [z] at h1
    cases h1
    exact h2 hp
  refine ⟨⟨r.st.sub, r.st.fro, ?_, r.st.keep, r.st.dom⟩, ⟨r.co.sub, by simp [r.co.len], ?_, ?_⟩, ?_⟩
  · obtain ⟨new, e, hn⟩ := r.st.mm
    refine ⟨new ++ [q], by rw [e, List.append_assoc], fun a ha => ?_⟩
    rcases List.mem_append.mp ha with z | z
    · exact hn a z
    · rw [List.mem_singleton] at z; subst z; exact hB
  · rw [List.nodup_append]
    refine ⟨r.co.nd, by simp, fun a ha b hb => ?_⟩
    rw [List.mem_singleton] at hb
    subst hb
    rintro rfl
    exact hm ha
  · intro j a d' h1 h2
    by_cases hj : j < m1.length
    · rw [List.getElem?_append_left hj] at h1
      rw [List.getElem?_append_left (by rw [← r.co.len]; exact hj)] at h2
      obtain ⟨f, k⟩ := r.co.obj j a d' h1 h2
      exact ⟨f, k.grow g⟩
    · have hj' : j = m1.length := by
        have := (List.getElem?_eq_some_iff.mp h1).1
        simp at this
        omega
      subst hj'
      rw [List.getElem?_append_right (Nat.le_refl _)] at h1
      rw [r.co.len, List.getElem?_append_right (Nat.le_refl _)] at h2
      simp at h1 h2
      subst h1 h2
      exact ⟨hF, hc.grow g⟩
  · refine ⟨by rw [setS_length, List.length_set]; exact r.sl.len, fun j => ?_, fun j k d1 d2 a hjk h1 h2 h3 => ?_⟩
    · rw [getS_setS, set_get, r.sl.len]
      split
      · refine ⟨.ref q, rfl, ?_⟩
        simp only [VD]
        exact ⟨q, rfl, by rw [← r.co.len]; simp⟩
      · have a := r.sl.at_ j
        revert a
        cases ej : getS sl j with
        | no => intro _; trivial
        | exn c => exact fun a => a
        | val d => rintro ⟨v, e2, h⟩; exact ⟨v, e2, h.grow g⟩
        | own d2 =>
          rintro ⟨b, e2, f2, m2, b2, c2⟩
          refine ⟨b, e2, f2, fun z => ?_, b2, c2.grow g⟩
          rcases List.mem_append.mp z with z | z
          · exact m2 z
          · rw [List.mem_singleton] at z
            subst z
            exact live ej e2
    · rw [getS_setS] at h1 h2
      rw [set_get] at h3 ⊢
      rw [r.sl.len] at h1 h2
      split at h1
      · cases h1
      · rename_i n1
        rw [if_neg n1] at h3
        split at h2
        · cases h2
        · rename_i n2
          rw [if_neg n2]
          exact r.sl.one j k d1 d2 a hjk h1 h2 h3
end Lt

set_option Elab.async false
set_option linter.all false
set_option maxRecDepth 100000
set_option maxHeartbeats 8000000
/-! Lt14: the steps of statements. -/
namespace Lt
open PySem PySem.Spec PyProof.Rows L2
variable {F F' F1 F2 : Hp} {m m' m1 m2 : List Addr} {H H' H1 H2 B : Hp} {mem mem' mem1 mem2 : Mem} {X : Cx} {G : Tab} {wf n : Nat}
variable {p : Pm} {n0 : En} {sl sl' : Sl} {σ : L2.St} {De : Ends} {k : Ck}

/-- what holds where statements run -/
structure GY (G : Tab) (wf n : Nat) (k : Ck) (p : Pm) (X : Cx) : Prop extends GX G wf n k p X where
  pass : k.hot = false → PassesOwn (model X.prog X.w) X.A X.env X.xe

theorem tG_froze {b : Bool} {f : Sl → Mem → Lt.R D} {Q : V → Hp → Prop} (h : tG p PV f σ H Q) : tG p (rlF b) f σ H Q := by
  cases b with
  | false => exact h
  | true =>
    obtain ⟨F, m, sl, mem, c, s, r⟩ := h
    exact ⟨F, m, sl, mem, c, s, r.froze⟩
def noComp : Expr → Bool
  | .ListComp .. | .SetComp .. | .DictComp .. => false
  | _ => true
theorem sw_false {v : Expr} (h : noComp v = true) {t : Option Expr} {l : Nat} {env : Env} : swapsWith v t l env = pure false := by
  cases v <;> first | rfl | exact Bool.noConfusion h
/-- [..] is handed to a name of its own line -/
def swB (sc : Scope) (y : Str) (py : Pos) : Expr → Bool
  | .ListComp _ _ scope pos => (sc.kind == .function) && decide (sc.names.lookup y = some .local) && (py.line == pos.line) && !(scope.names.any fun (n, k) => n == y && (k == .local || k == .cell))
  | _ => false
theorem kind_eq {k k' : ScopeKind} (h : (k == k') = true) : k = k' := by
  cases k <;> cases k' <;> first | rfl | exact Bool.noConfusion h
/-- name = e -/
theorem ps_store (g : GX G wf n k p X) {e : E} {v : Expr} (h : chk e k v = true) (hi : isIt e = false) {i : Nat} {x : Str} {py pos : Pos} (hn : k.N[i]? = some x) (hl : k.loc x = true) (hsw : (noComp v || swB k.sc x py v) = true) :
    PS X (.Assign [.Name x py] v pos) (fun De σ H => tG p (rlF (frE G e)) (ev p.v e) σ H fun y H1 => De.nx (σ.set i (some y)) H1) := by
  obtain ⟨l1, l2⟩ := g.loc x hl
  cases hc : noComp v with
  | true => exact ps_set g.nd (by rw [g.N]; exact hn) l1 ((snd e k p X v g h).pe hi) (sw_false hc) l2
  | false =>
    rw [hc, Bool.false_or] at hsw
    cases v <;> first | exact Bool.noConfusion hsw | skip
    rename_i elt gs scope cpos
    simp only [swB, Bool.and_eq_true, decide_eq_true_eq, Bool.not_eq_true'] at hsw
    obtain ⟨⟨⟨s1, s2⟩, s3⟩, s4⟩ := hsw
    cases e <;> first | (simp [chk] at h; done) | skip
    rename_i t it c el
    unfold chk at h
    split at h
    · rename_i elt' tg iter ifs scope' pos' heq
      cases heq
      obtain ⟨h, h10⟩ := band h
      obtain ⟨h, h9⟩ := band h
      obtain ⟨h, h8⟩ := band h
      obtain ⟨h, h7⟩ := band h
      obtain ⟨h, h6⟩ := band h
      obtain ⟨h, h5⟩ := band h
      obtain ⟨h, h4⟩ := band h
      obtain ⟨h, h3⟩ := band h
      obtain ⟨h1, h2⟩ := band h
      have hk := bnot h1
      have hi : PI X tg iter (tI p it) := by
        have s := snd it k p X _ g h4
        cases hn : needTup it with
        | true =>
          rw [hn] at h2
          obtain ⟨es, kk, tp, rfl⟩ := isTup_of (show isTupE tg = true from h2)
          exact s.piT hn es kk tp
        | false =>
          cases hi : isIt it with
          | true => exact s.pi hi hn tg
          | false => exact pi_any (s.toE hi)
      have hvs : ∀ i, i ∈ idxT t ↔ i ∈ (ownOf k.N scope).map (·.2) := by
        obtain ⟨z1, z2⟩ := band h7
        rw [List.all_eq_true] at z1 z2
        exact fun i => ⟨fun hm => by simpa using z1 i hm, fun hm => by simpa using z2 i hm⟩
      have nd : X.N.Nodup := g.nd
      have ok : BlkOk X.N X.env.scope scope (ownOf k.N scope) := by rw [g.N, g.sc]; exact blkOk_by h6
      have hsw' : swapsWith (.ListComp elt [⟨tg, iter, ifs, 0⟩] scope cpos) (some (.Name x py)) pos.line X.env = pure true := sw_true (by rw [g.sc]; exact kind_eq s1) (by rw [g.sc]; exact s2) s3 s4
      refine weakS (ps_setLc (g.calm hk) nd (by rw [g.N]; exact hn) (by rw [g.sc]; exact s2) hsw' hi ok (g := gT X.K t) (tt := tCnd p.calm c) (te := tE p.calm el) (fun s H C cl fp => ?_) (fun s H C cl fp => ?_) (fun s H C cl fp => ?_) (folded h3)) fun De σ H q => lc_of (K := X.K) hvs q
      · have gb := g.blk hk scope s H C cl fp
        exact pg_ok (k := blkK k scope) (gb.calm hk) gb.N gb.nd gb.loc t tg h5
      · have gb := g.blk hk scope s H C cl fp
        split at h10
        · cases c <;> first | exact pts_nil | exact Bool.noConfusion h10
        · obtain ⟨h10, d4⟩ := band h10
          obtain ⟨h10, d3⟩ := band h10
          obtain ⟨d1, d2⟩ := band h10
          have e : tCnd p.calm c = tT p.calm c := by cases c <;> first | rfl | exact Bool.noConfusion d1
          rw [e]
          exact pts_one ((snd c _ _ _ _ gb d4).pt (bnot d2) (bnot d3)).1
        · cases h10
      · have gb := g.blk hk scope s H C cl fp
        exact (snd el _ _ _ _ gb h9).toE (bnot h8)
    · cases h

/-! ### stores -/
theorem s_asgN {i : Nat} {e : E} {st : Stmt} {b : Bool} (h : PS X st (fun De σ H => tG p (rlF b) (ev p.v e) σ H fun y H1 => De.nx (σ.set i (some y)) H1)) : PS X st (tS p n0 (ex p.v (.asg (.nm i) e))) :=
  weakS h fun De σ H q => by
    have q : tS p n0 (fun sl m => (ev p.v e sl m).st sl fun d m => match tgt (.nm i) d sl with
      | some sl' => .ok .nx sl' m
      | none => .stuck) De σ H := by
      have q2 : tS p n0 (fun sl m => ex p.v _ sl m) De σ H := q
      simp only [ex] at q2
      exact q2
    refine tG_froze ((tS.st (P := PV) q).mono fun v H1 ⟨F, m, H0, F1, m1, sl, d, mem1, rel, _, _, _, pv, r⟩ => ?_)
    exact r _ _ _ _ Gr.refl (rel.set pv)
theorem s_asgT {t : T} {tg : Expr} {e : E} {v : Expr} {pos : Pos} (he : PE X v (tE p e)) (hg : PG X tg (gT X.K t)) (hv : ∀ es kk q, v ≠ .Tuple es kk q) (ht : ∃ es kk q, tg = .Tuple es kk q) : PS X (.Assign [tg] v pos) (tS p n0 (ex p.v (.asg t e))) := by
  obtain ⟨es, kk, q0, rfl⟩ := ht
  have hs : swapsWithSole [.Tuple es kk q0] v pos.line X.env = pure false := by cases v <;> rfl
  have hw : swappedStores [.Tuple es kk q0] v X.env = pure none := by cases v <;> first | rfl | exact absurd rfl (hv _ _ _)
  refine weakS (ps_asg he hg hs hw) fun De σ H q => ?_
  have q : tS p n0 (fun sl m => (ev p.v e sl m).st sl fun d m => match tgt t d sl with
    | some sl' => .ok .nx sl' m
    | none => .stuck) De σ H := by
    have q2 : tS p n0 (fun sl m => ex p.v _ sl m) De σ H := q
    simp only [ex] at q2
    exact q2
  refine (tS.st (P := PV) q).mono fun v H1 ⟨F, m, H0, F1, m1, sl, d, mem1, rel, _, _, _, pv, r⟩ => ?_
  cases et : tgt t d sl with
  | none => rw [et] at r; exact r.elim
  | some sl' =>
    rw [et] at r
    exact gT_ok X.K t d v sl sl' σ _ rel.co pv rel.sl et fun σ' s' _ => r _ _ _ _ Gr.refl ⟨rel.st, rel.co, s'⟩
/-- a literal is no list -/
theorem lit_F {d : D} {v : Expr} (h : chk (.lit d) k v = true) {f : Sl → Mem → Lt.R D} (hf : f = ev p.v (.lit d)) {Q : V → Hp → Prop} (q : tG p PF f σ H Q) : tG p PV f σ H Q := by
  subst hf
  obtain ⟨F, m, sl, mem, c, s, r⟩ := q
  refine ⟨F, m, sl, mem, c, s, ?_⟩
  simp only [ev] at r ⊢
  have nl : ∀ xs, d ≠ .lst xs := by
    rintro xs rfl
    unfold chk at h
    split at h
    · rename_i c _ _
      cases c <;> exact Bool.noConfusion h
    · cases h
  intro b F' m' H' st c' hb
  refine r b F' m' H' st c' ?_
  cases d <;> first | exact hb | exact absurd rfl (nl _)
def isLit : E → Bool
  | .lit _ => true
  | _ => false
def newB (G : Tab) (e : E) : Bool := frE G e || isLit e
theorem newB_F {e : E} {v : Expr} (hn : newB G e = true) (h : chk e k v = true) {Q : V → Hp → Prop} (q : tG p PF (ev p.v e) σ H Q) : tG p (rlF (frE G e)) (ev p.v e) σ H Q := by
  cases hf : frE G e with
  | true => exact q
  | false =>
    have hl : isLit e = true := by simpa [newB, hf] using hn
    cases e <;> first | exact Bool.noConfusion hl | skip
    exact lit_F h rfl q
theorem PF.lst {H0 : Hp} {xs : List D} {v : V} (h : PF H0 F m H (.lst xs) v) : ∃ q vs, v = .ref q ∧ H0 q = none ∧ F q = none ∧ q ∉ m ∧ H q = some (.lst vs) ∧ VDs F m xs vs := h
theorem s_own (g : GX G wf n k p X) {i : Nat} {e : E} {v : Expr} {st : Stmt} (hn : newB G e = true) (hc : chk e k v = true) (h : PS X st (fun De σ H => tG p (rlF (frE G e)) (ev p.v e) σ H fun y H1 => De.nx (σ.set i (some y)) H1)) : PS X st (tS p n0 (ex p.v (.own i e))) :=
  weakS h fun De σ H q => by
    have q : tS p n0 (fun sl m => (ev p.v e sl m).st sl fun d m => .ok .nx (setS sl i (ownV d)) m) De σ H := by
      have q2 : tS p n0 (fun sl m => ex p.v _ sl m) De σ H := q
      simp only [ex] at q2
      exact q2
    refine newB_F hn hc ((tS.st (P := PF) q).mono fun v H1 ⟨F, m, H0, F1, m1, sl, d, mem1, rel, s0, sE, s1, pf, r⟩ => ?_)
    cases hl : isLst d with
    | false =>
      have r' : ResS p n0 F1 m1 De (.ok .nx (setS sl i (.val d)) mem1) := by simp only [ownV, hl] at r; exact r
      refine r' _ _ _ _ Gr.refl (rel.set ?_)
      cases d <;> first | exact pf | exact Bool.noConfusion hl
    | true =>
      have r' : ResS p n0 F1 m1 De (.ok .nx (setS sl i (.own d)) mem1) := by simp only [ownV, hl] at r; exact r
      cases d <;> first | exact Bool.noConfusion hl | skip
      obtain ⟨a, vs, rfl, h1, h2, h3, h4, h5⟩ := PF.lst pf
      exact r' _ _ _ _ Gr.refl ⟨rel.st, rel.co, Slots.setOwn s0 rel.sl h1 (sE.entryNew h1) h2 h3 ⟨vs, h4, h5⟩⟩
theorem s_thaw (g : GX G wf n k p X) {i : Nat} {e : E} {v : Expr} {st : Stmt} (hn : newB G e = true) (hc : chk e k v = true) (h : PS X st (fun De σ H => tG p (rlF (frE G e)) (ev p.v e) σ H fun y H1 => De.nx (σ.set i (some y)) H1)) : PS X st (tS p n0 (ex p.v (.thaw i e))) :=
  weakS h fun De σ H q => by
    have q : tS p n0 (fun sl m => (ev p.v e sl m).st sl fun d m => if isLst d then .ok .nx (setS sl i (.val (.ref m.length))) (m ++ [d]) else .stuck) De σ H := by
      have q2 : tS p n0 (fun sl m => ex p.v _ sl m) De σ H := q
      simp only [ex] at q2
      exact q2
    refine newB_F hn hc ((tS.st (P := PF) q).mono fun v H1 ⟨F, m, H0, F1, m1, sl, d, mem1, rel, s0, sE, s1, pf, r⟩ => ?_)
    cases hl : isLst d with
    | false => simp only [hl] at r; exact r.elim
    | true =>
      have r' : ResS p n0 F1 m1 De (.ok .nx (setS sl i (.val (.ref mem1.length))) (mem1 ++ [d])) := by simpa only [hl, if_true] using r
      cases d <;> first | exact Bool.noConfusion hl | skip
      obtain ⟨a, vs, rfl, h1, h2, h3, h4, h5⟩ := PF.lst pf
      exact r' _ _ _ _ ⟨fun _ _ h => h, [a], rfl⟩ (Rel.thaw s0 sE rel h1 h2 h3 ⟨vs, h4, h5⟩)

/-! ### values dropped, handed back; tests -/
theorem s_exp {e : E} {v : Expr} {pos : Pos} (he : PE X v (tE p e)) (hs : noComp v = true) : PS X (.Expr v pos) (tS p n0 (ex p.v (.exp e))) :=
  weakS (ps_expr he (sw_false hs)) fun De σ H q => by
    have q : tS p n0 (fun sl m => (ev p.v e sl m).st sl fun _ m => .ok .nx sl m) De σ H := by
      have q2 : tS p n0 (fun sl m => ex p.v _ sl m) De σ H := q
      simp only [ex] at q2
      exact q2
    refine (tS.st (P := PV) q).mono fun v H1 ⟨F, m, H0, F1, m1, sl, d, mem1, rel, _, _, _, pv, r⟩ => ?_
    exact r _ _ _ _ Gr.refl rel
theorem rl_notLst {b : Bool} {H0 : Hp} {d : D} {v : V} (hl : isLst d = false) (h : VD F m d v) : rlF b H0 F m H d v := by
  cases b with
  | false => exact h
  | true => cases d <;> first | exact h | exact Bool.noConfusion hl
theorem s_ret {gg : Bool} {e : E} {v : Expr} {pos : Pos} (hv : ∀ i, e ≠ .var i) (he : PE X v (tG p (rlF (frE G e)) (ev p.v e))) (hg : (!n0.fr || gg || frE G e) = true) : PS X (.Return (some v) pos) (tS p n0 (ex p.v (.ret gg e))) :=
  weakS (ps_ret he) fun De σ H q => by
    have q : tS p n0 (fun sl m => (ev p.v e sl m).st sl fun d m => retS gg d sl m) De σ H := by
      obtain ⟨F, m, sl, mem, rel, r⟩ := q
      refine ⟨F, m, sl, mem, rel, ?_⟩
      cases e <;> first | exact absurd rfl (hv _) | (unfold ex at r; exact r)
    cases hf : frE G e with
    | true =>
      refine (tS.st (P := PF) q).mono fun v H1 ⟨F, m, H0, F1, m1, sl, d, mem1, rel, s0, sE, s1, pf, r⟩ => ?_
      cases hr : (gg && isLst d) with
      | true => simp only [retS, hr, if_true] at r; exact r.elim
      | false =>
        have r' : ResS p n0 F1 m1 De (.ok (.ret d) sl mem1) := by simp only [retS, hr] at r; exact r
        cases hb : n0.fr with
        | true =>
          refine r' F1 m1 H1 v rel.st rel.co ?_
          rw [hb]
          exact PF.anti.ap sE pf
        | false =>
          cases d with
          | lst xs =>
            obtain ⟨a, vs, rfl, h1, h2, h3, h4, h5⟩ := PF.lst pf
            have gz : Gr F1 m1 (upd F1 a (.lst vs)) m1 := Gr.freeze h2
            refine r' (upd F1 a (.lst vs)) m1 H1 _ (rel.st.freeze (sE.entryNew h1) h2) (rel.co.freeze h4 h2 h3) ?_
            rw [hb]
            show VD _ _ _ _
            simp only [VD]
            exact ⟨a, vs, rfl, upd_same, h5.grow gz⟩
          | _ => exact r' F1 m1 H1 v rel.st rel.co (by rw [hb]; exact pf)
    | false =>
      refine (tS.st (P := PV) q).mono fun v H1 ⟨F, m, H0, F1, m1, sl, d, mem1, rel, s0, sE, s1, pv, r⟩ => ?_
      cases hr : (gg && isLst d) with
      | true => simp only [retS, hr, if_true] at r; exact r.elim
      | false =>
        have r' : ResS p n0 F1 m1 De (.ok (.ret d) sl mem1) := by simp only [retS, hr] at r; exact r
        refine r' F1 m1 H1 v rel.st rel.co ?_
        cases hb : n0.fr with
        | false => exact pv
        | true =>
          have hgg : gg = true := by simpa [hb, hf] using hg
          refine rl_notLst (b := true) ?_ pv
          simpa [hgg] using hr
theorem s_retV {gg : Bool} {i : Nat} {x : Str} {vp pos : Pos} (g : GX G wf n k p X) (h : varB k i x = true) (hg : (!n0.fr || gg) = true) : PS X (.Return (some (.Name x vp)) pos) (tS p n0 (ex p.v (.ret gg (.var i)))) :=
  weakS (ps_ret (pe_varT g.N g.sc h)) fun De σ H q => by
    obtain ⟨F, m, sl, mem, rel, r⟩ := q
    have a := rel.sl.at_ i
    simp only [ex] at r
    cases e : getS sl i with
    | no => rw [e] at r; exact r.elim
    | exn c => rw [e] at r; exact r.elim
    | own d =>
      rw [e] at r a
      obtain ⟨q, e1, h1, h2, h3, h4⟩ := a
      refine ⟨.ref q, e1, ?_⟩
      have r' : ResS p n0 F m De (.ok (.ret d) sl mem) := r
      cases d with
      | lst xs =>
        obtain ⟨vs, e2, hv⟩ := h4
        cases hb : n0.fr with
        | true => exact r' F m H _ rel.st rel.co (by rw [hb]; exact ⟨q, vs, rfl, h3, h1, h2, e2, hv⟩)
        | false =>
          have gz : Gr F m (upd F q (.lst vs)) m := Gr.freeze h1
          refine r' (upd F q (.lst vs)) m H _ (rel.st.freeze h3 h1) (rel.co.freeze e2 h1 h2) ?_
          rw [hb]
          show VD _ _ _ _
          simp only [VD]
          exact ⟨q, vs, rfl, upd_same, hv.grow gz⟩
      | _ => exact h4.elim
    | val d =>
      rw [e] at r a
      obtain ⟨v, e1, hv⟩ := a
      refine ⟨v, e1, ?_⟩
      cases hr : (gg && isLst d) with
      | true => simp only [retS, hr, if_true] at r; exact r.elim
      | false =>
        have r' : ResS p n0 F m De (.ok (.ret d) sl mem) := by simp only [retS, hr] at r; exact r
        refine r' F m H _ rel.st rel.co ?_
        cases hb : n0.fr with
        | false => exact hv
        | true =>
          have hgg : gg = true := by simpa [hb] using hg
          exact rl_notLst (b := true) (by simpa [hgg] using hr) hv
theorem s_retN {pos : Pos} : PS X (.Return none pos) (tS p n0 (ex p.v .retN)) := weakS ps_retN fun De σ H q => by
  obtain ⟨F, m, sl, mem, rel, r⟩ := q
  have r' : ResS p n0 F m De (.ok (.ret .non) sl mem) := by simpa only [ex] using r
  exact r' F m H _ rel.st rel.co (rl_notLst rfl (by simp [VD]))
theorem s_pass {pos : Pos} : PS X (.Pass pos) (tS p n0 (ex p.v .pass)) := weakS ps_pass fun De σ H q => by
  obtain ⟨F, m, sl, mem, rel, r⟩ := q
  have r' : ResS p n0 F m De (.ok .nx sl mem) := by simpa only [ex] using r
  exact r' F m H _ Gr.refl rel
theorem s_brk {pos : Pos} : PS X (.Break pos) (tS p n0 (ex p.v .brk)) := weakS ps_break fun De σ H q => by
  obtain ⟨F, m, sl, mem, rel, r⟩ := q
  have r' : ResS p n0 F m De (.ok .brk sl mem) := by simpa only [ex] using r
  exact r' F m H _ Gr.refl rel
theorem s_cnt {pos : Pos} : PS X (.Continue pos) (tS p n0 (ex p.v .cnt)) := weakS ps_continue fun De σ H q => by
  obtain ⟨F, m, sl, mem, rel, r⟩ := q
  have r' : ResS p n0 F m De (.ok .cnt sl mem) := by simpa only [ex] using r
  exact r' F m H _ Gr.refl rel
theorem s_never {st : Stmt} : PS X st (tS p n0 (ex p.v .never)) := weakS ps_never fun De σ H q => by
  obtain ⟨F, m, sl, mem, rel, r⟩ := q
  simp only [ex] at r
  exact r.elim
/-- a test, then what follows -/
theorem tS.test {c : E} {f g : Sl → Mem → RS} (h : tS p n0 (fun sl m => (ev p.v c sl m).st sl fun x m => match x with
      | .bl true => f sl m
      | .bl false => g sl m
      | _ => .stuck) De σ H) : tT p c σ H fun b H1 => ∃ F0 m0 F m sl mem, Gr F0 m0 F m ∧ Rel p n0 F m sl mem σ H1 ∧ ResS p n0 F m De (if b = true then f sl mem else g sl mem) := by
  obtain ⟨F, m, sl, mem, rel, r⟩ := h
  have r : ResS p n0 F m De ((ev p.v c sl mem).st sl fun x m => match x with
      | .bl true => f sl m
      | .bl false => g sl m
      | _ => .stuck) := r
  refine ⟨F, m, sl, mem, rel.co, rel.sl, ?_⟩
  show Res p.xr PB F m H _ _ ((ev p.v c sl mem).bind asB)
  cases e : ev p.v c sl mem with
  | stuck => rw [e] at r; exact r.elim
  | exc q mem' => 
    rw [e] at r
    exact fun c d F' m' H' s k q => r c d F' m' H' σ s.gr (rel.step s k) q
  | ok d mem' =>
    rw [e] at r
    cases d <;> first | exact r.elim | skip
    rename_i b
    intro b' F' m' H' st c' hb
    have hb : b = b' := hb
    subst hb
    refine ⟨F, m, F', m', sl, mem', st.gr, rel.step st c', ?_⟩
    cases b with
    | true => exact ResS.gr st.gr r
    | false => exact ResS.gr st.gr r
theorem s_iff {c : E} {a b : List S} {t : Expr} {as bs : List Stmt} {pos : Pos} (hc : PT X t (tT p c)) (ha : PSs X as (tS p n0 (exs p.v a))) (hb : PSs X bs (tS p n0 (exs p.v b))) : PS X (.If t as bs pos) (tS p n0 (ex p.v (.iff c a b))) :=
  weakS (ps_if hc ha hb) fun De σ H q => by
    have q : tS p n0 (fun sl m => (ev p.v c sl m).st sl fun x m => match x with
      | .bl true => exs p.v a sl m
      | .bl false => exs p.v b sl m
      | _ => .stuck) De σ H := by
      have q2 : tS p n0 (fun sl m => ex p.v _ sl m) De σ H := q
      simp only [ex] at q2
      exact q2
    refine (tS.test q).mono fun b H1 ⟨F0, m0, F, m, sl, mem, _, rel, r⟩ => ?_
    cases b with
    | true => exact ⟨F, m, sl, mem, rel, r⟩
    | false => exact ⟨F, m, sl, mem, rel, r⟩

/-! ### loops -/
theorem loop_body {f : Sl → Mem → RS} {r : RS} {N : L2.St → Hp → Prop} {Nx : RS → RS} (h : ResS p n0 F m De (match r with
      | .ok .nx sl m => f sl m
      | .ok .cnt sl m => f sl m
      | .ok .brk sl m => .ok .nx sl m
      | r => r)) (hN : ∀ F' m' H' σ' sl mem, Gr F m F' m' → Rel p n0 F' m' sl mem σ' H' → ResS p n0 F m De (f sl mem) → N σ' H') : ResS p n0 F m { De with nx := N, ct := N, bk := De.nx } r := by
  match r, h with
  | .ok .nx sl mem, h => exact fun F' m' H' σ' g rel => hN F' m' H' σ' sl mem g rel h
  | .ok .cnt sl mem, h => exact fun F' m' H' σ' g rel => hN F' m' H' σ' sl mem g rel h
  | .ok .brk sl mem, h => exact h
  | .ok (.ret d) sl mem, h => exact h
  | .exc x sl mem, h => exact h
  | .stuck, h => exact h.elim
theorem s_whl {c : E} {b : List S} {t : Expr} {bs : List Stmt} {pos : Pos} (hp : PassesOwn (model X.prog X.w) X.A X.env X.xe) (hc : PT X t (tT p c)) (hb : PSs X bs (tS p n0 (exs p.v b))) : PS X (.While t bs [] pos) (tS p n0 (ex p.v (.whl c b))) :=
  weakS (ps_while hp hc hb) fun De σ H q => by
    have q : tS p n0 (fun sl m => whlGo (ev p.v c) (exs p.v b) p.v.wf sl m) De σ H := by
      have q2 : tS p n0 (fun sl m => ex p.v _ sl m) De σ H := q
      simp only [ex] at q2
      exact q2
    refine ⟨fun f σ H => tS p n0 (fun sl m => whlGo (ev p.v c) (exs p.v b) f sl m) De σ H, ⟨_, q⟩, ?_⟩
    intro f σ H q
    cases f with
    | zero =>
      obtain ⟨F, m, sl, mem, rel, r⟩ := q
      exact r.elim
    | succ f =>
      have q : tS p n0 (fun sl m => (ev p.v c sl m).st sl fun x m => match x with
        | .bl true => (match exs p.v b sl m with
          | .ok .nx sl m => whlGo (ev p.v c) (exs p.v b) f sl m
          | .ok .cnt sl m => whlGo (ev p.v c) (exs p.v b) f sl m
          | .ok .brk sl m => .ok .nx sl m
          | r => r)
        | .bl false => .ok .nx sl m
        | _ => .stuck) De σ H := q
      refine (tS.test q).mono fun bb H1 ⟨F0, m0, F, m, sl, mem, _, rel, r⟩ => ?_
      cases bb with
      | false =>
        rw [if_neg Bool.false_ne_true] at r ⊢
        exact r _ _ _ _ Gr.refl rel
      | true =>
        rw [if_pos rfl] at r ⊢
        refine ⟨fun σ H => tS p n0 (fun sl m => whlGo (ev p.v c) (exs p.v b) f sl m) De σ H, fun σ' H' q' => ⟨f, Nat.lt_succ_self f, q'⟩, F, m, sl, mem, rel, ?_⟩
        exact loop_body (Nx := id) r fun F' m' H' σ' sl' mem' g rel' r' => ⟨F', m', sl', mem', rel', ResS.gr g r'⟩
theorem s_for {t : T} {it : E} {b : List S} {tg iter : Expr} {bs : List Stmt} {pos : Pos} (hp : PassesOwn (model X.prog X.w) X.A X.env X.xe) (hc : X.calm = true) (hi : PI X tg iter (tI p it)) (hg : PG X tg (gT X.K t)) (hb : PSs X bs (tS p n0 (exs p.v b))) (hs : ∀ x, foldedSetIterable iter X.env x = pure x) :
    PS X (.For tg iter bs [] pos) (tS p n0 (ex p.v (.for t it b))) :=
  weakS (ps_for hp hc hi hg hb hs) fun De σ H q => by
    have q : tS p n0 (fun sl m => ((ev p.v it sl m).bind fun d m => R.of (itemsD d) m).st sl fun xs m => forGo t (exs p.v b) xs sl m) De σ H := by
      obtain ⟨F, m, sl, mem, rel, r⟩ := q
      refine ⟨F, m, sl, mem, rel, ?_⟩
      simp only [ex] at r
      show ResS p n0 F m De (((ev p.v it sl mem).bind fun d m => R.of (itemsD d) m).st sl fun xs m => forGo t (exs p.v b) xs sl m)
      cases e : ev p.v it sl mem with
      | stuck => rw [e] at r; exact r
      | exc q mem' => rw [e] at r; exact r
      | ok d mem' =>
        rw [e] at r
        simp only [R.st] at r
        simp only [R.bind]
        cases e2 : itemsD d with
        | none => rw [e2] at r; exact r
        | some xs => rw [e2] at r; exact r
    refine (tS.st (P := PIt) q).mono fun J H1 ⟨F, m, H0, F1, m1, sl, xs, mem1, rel, _, _, _, ⟨hJ, hlen⟩, r⟩ => ?_
    refine ⟨fun i n σ H => n = xs.length - i ∧ i ≤ xs.length ∧ ∃ F' m' sl' mem', Gr F1 m1 F' m' ∧ Rel p n0 F' m' sl' mem' σ H ∧ ResS p n0 F' m' De (forGo t (exs p.v b) (xs.drop i) sl' mem'), ⟨xs.length, by simp, Nat.zero_le _, F1, m1, sl, mem1, Gr.refl, rel, by rw [List.drop_zero]; exact r⟩, ?_⟩
    rintro i n σ H ⟨rfl, hi, F2, m2, sl2, mem2, g2, rel2, r2⟩
    obtain ⟨j1, j2, j3⟩ := hJ i F2 m2 mem2 H g2.sub g2.mm rel2.co
    by_cases hlt : i < xs.length
    · refine .inr ⟨j1 hlt, fun σ H => tS p n0 (fun sl m => forGo t (exs p.v b) (xs.drop (i + 1)) sl m) De σ H ∧ ∃ F' m' sl' mem', Gr F1 m1 F' m' ∧ Rel p n0 F' m' sl' mem' σ H ∧ ResS p n0 F' m' De (forGo t (exs p.v b) (xs.drop (i + 1)) sl' mem'), fun σ' H' ⟨_, q'⟩ => ⟨_, by omega, rfl, hlt, q'⟩, fun x H' y => ?_⟩
      have hx : xs[i]? = some xs[i] := List.getElem?_eq_getElem hlt
      obtain ⟨F3, st3, c3, v3⟩ := j3 _ x H' hx y
      rw [List.drop_eq_getElem_cons hlt] at r2
      simp only [forGo] at r2
      have rel3 := rel2.step st3 c3
      cases et : tgt t xs[i] sl2 with
      | none => rw [et] at r2; exact r2.elim
      | some sl' =>
        rw [et] at r2
        refine gT_ok X.K t _ x _ _ _ _ c3 v3 rel3.sl et fun σ' s' _ => ?_
        refine ⟨F3, m2, sl', mem2, ⟨rel3.st, c3, s'⟩, ?_⟩
        refine loop_body (Nx := id) (ResS.gr st3.gr r2) fun F' m' H' σ' sl'' mem'' g rel' r' => ?_
        have r'' := ResS.gr g r'
        exact ⟨⟨F', m', sl'', mem'', rel', r''⟩, F', m', sl'', mem'', (g2.trans st3.gr).trans g, rel', r''⟩
    · have e : i = xs.length := by omega
      subst e
      refine .inl ⟨j2 (Nat.le_refl _), ?_⟩
      rw [List.drop_length] at r2
      exact r2 _ _ _ _ Gr.refl rel2
end Lt

set_option Elab.async false
set_option linter.all false
set_option maxRecDepth 100000
set_option maxHeartbeats 8000000
/-! Lt15: objects changed; pairs stored; the check of statements is sound. -/
namespace Lt
open PySem PySem.Spec PyProof.Rows L2
variable {F F' F1 F2 : Hp} {m m' m1 m2 : List Addr} {H H' H1 H2 B : Hp} {mem mem' mem1 mem2 : Mem} {X : Cx} {G : Tab} {wf n : Nat}
variable {p : Pm} {n0 : En} {sl sl' : Sl} {σ : L2.St} {De : Ends} {k : Ck}

theorem chg_ok {i : Nat} {v : V} {f : D → Option D} (rel : Rel p n0 F m sl mem σ H) (hv : σ[i]? = some (some v)) (r : ResS p n0 F m De (chg (.var i) sl mem f)) (hf : ∀ d d', f d = some d' → ∃ xs ys, d = .lst xs ∧ d' = .lst ys) :
    ∃ q xs vs ys, v = .ref q ∧ H q = some (.lst vs) ∧ VDs F m xs vs ∧ f (.lst xs) = some (.lst ys) ∧ ∀ ws, VDs F m ys ws → De.nx σ (upd H q (.lst ws)) := by
  have a := rel.sl.at_ i
  simp only [chg] at r
  cases e : getS sl i with
  | no => rw [e] at r; exact r.elim
  | exn c => rw [e] at r; exact r.elim
  | own d =>
    rw [e] at r a
    obtain ⟨q, e1, _, _, _, hc⟩ := a
    rw [hv] at e1
    cases e1
    simp only at r
    cases ef : f d with
    | none => rw [ef] at r; exact r.elim
    | some d' =>
      rw [ef] at r
      obtain ⟨xs, ys, rfl, rfl⟩ := hf _ _ ef
      obtain ⟨vs, e2, h2⟩ := hc
      refine ⟨q, xs, vs, ys, rfl, e2, h2, ef, fun ws hw => ?_⟩
      exact r _ _ _ _ Gr.refl (rel.chgOwn e hv ⟨ws, upd_same, hw⟩)
  | val d =>
    rw [e] at r a
    cases d <;> first | exact r.elim | skip
    rename_i j
    obtain ⟨v', e1, hd⟩ := a
    rw [hv] at e1
    cases e1
    simp only [VD] at hd
    obtain ⟨q, rfl, hj⟩ := hd
    simp only at r
    cases em : mem[j]? with
    | none => rw [em] at r; exact r.elim
    | some d =>
      rw [em] at r
      simp only at r
      cases ef : f d with
      | none => rw [ef] at r; exact r.elim
      | some d' =>
        rw [ef] at r
        obtain ⟨xs, ys, rfl, rfl⟩ := hf _ _ ef
        obtain ⟨hF, vs, e2, h2⟩ := rel.co.obj j q _ hj em
        refine ⟨q, xs, vs, ys, rfl, e2, h2, ef, fun ws hw => ?_⟩
        exact r _ _ _ _ Gr.refl (rel.chgRef hj ⟨ws, upd_same, hw⟩)
theorem obj_ok {i : Nat} (rel : Rel p n0 F m sl mem σ H) (h : isObj (.var i) sl mem = true) : ∃ q vs, σ[i]? = some (some (.ref q)) ∧ H q = some (.lst vs) := by
  have a := rel.sl.at_ i
  simp only [isObj] at h
  cases e : getS sl i with
  | no => rw [e] at h; exact Bool.noConfusion h
  | exn c => rw [e] at h; exact Bool.noConfusion h
  | own d =>
    rw [e] at a h
    obtain ⟨q, e1, _, _, _, hc⟩ := a
    cases d <;> first | exact hc.elim | skip
    obtain ⟨vs, e2, _⟩ := hc
    exact ⟨q, vs, e1, e2⟩
  | val d =>
    rw [e] at a h
    cases d <;> first | exact Bool.noConfusion h | skip
    rename_i j
    obtain ⟨v', e1, hd⟩ := a
    simp only [VD] at hd
    obtain ⟨q, rfl, hj⟩ := hd
    simp only at h
    cases em : mem[j]? with
    | none => rw [em] at h; exact Bool.noConfusion h
    | some d =>
      rw [em] at h
      obtain ⟨hF, hc⟩ := rel.co.obj j q _ hj em
      cases d <;> first | exact hc.elim | skip
      obtain ⟨vs, e2, _⟩ := hc
      exact ⟨q, vs, e1, e2⟩
theorem appD_of {d x d' : D} (h : appD d x = some d') : ∃ xs ys, d = .lst xs ∧ d' = .lst ys := by
  cases d <;> first | (simp [appD] at h; done) | skip
  simp only [appD] at h
  split at h
  · cases h; exact ⟨_, _, rfl, rfl⟩
  · cases h
theorem extD_of {d x d' : D} (h : extD d x = some d') : ∃ xs ys, d = .lst xs ∧ d' = .lst ys := by
  cases d <;> cases x <;> first | (simp [extD] at h; done) | skip
  simp only [extD] at h
  split at h
  · cases h; exact ⟨_, _, rfl, rfl⟩
  · cases h
theorem setD_of {d x y d' : D} (h : setD d x y = some d') : ∃ xs ys, d = .lst xs ∧ d' = .lst ys := by
  cases d <;> cases x <;> first | (simp [setD] at h; done) | skip
  simp only [setD, Option.map_eq_some_iff] at h
  obtain ⟨j, _, rfl⟩ := h
  exact ⟨_, _, rfl, rfl⟩
theorem s_app {i : Nat} {e : E} {x : Str} {ve : Expr} {vp ap cp pos : Pos} (g : GX G wf n k p X) (hv : varB k i x = true) (hs : noStar ve = true) (he : PE X ve (tE p e)) (hline : (ap.endLine == cp.line) = true) :
    PS X (.Expr (.Call (.Attribute (.Name x vp) (Str.ofString "append") ap) [ve] [] cp) pos) (tS p n0 (ex p.v (.app (.var i) e))) := by
  refine weakS (ps_expr (pe_bm PySem.F.plainAttrs_list PySem.F.slot_list_append PySem.F.type_list_append mt_append (pe_varT g.N g.sc hv) (tE1 hs he) rfl ?_ hline (starEach_cons hs) rfl) rfl) fun De σ H q => ?_
  · rw [allNot (by simp [hs])]
    rfl
  · obtain ⟨F, m, sl, mem, rel, r⟩ := q
    simp only [ex] at r
    cases ho : isObj (.var i) sl mem with
    | false => rw [ho] at r; exact r.elim
    | true =>
      rw [ho, if_pos rfl] at r
      obtain ⟨q, vs, e1, e2⟩ := obj_ok rel ho
      refine ⟨.ref q, e1, .inl ⟨rfl, vs, SqL.of e2⟩, F, m, sl, mem, rel.co, rel.sl, (ResS.st (P := PV) rel r).mono fun v H1 ⟨F1, m1, d, mem1, rel1, st, pv, r1⟩ => ?_⟩
      obtain ⟨q', xs, us, ys, eq, e3, h3, e4, fin⟩ := chg_ok rel1 e1 r1 fun d d' h => appD_of h
      cases eq
      simp only [appD] at e4
      split at e4
      · rename_i hl
        cases e4
        exact ⟨q, us, v, rfl, rfl, e3, by rw [LIM_eq, ← h3.length]; exact hl, fin _ (h3.append (VDs.cons pv VDs.nil))⟩
      · cases e4
theorem s_ext {i : Nat} {e : E} {x : Str} {ve : Expr} {vp ap cp pos : Pos} (g : GX G wf n k p X) (hv : varB k i x = true) (hs : noStar ve = true) (he : PE X ve (tR p e)) (hline : (ap.endLine == cp.line) = true) :
    PS X (.Expr (.Call (.Attribute (.Name x vp) (Str.ofString "extend") ap) [ve] [] cp) pos) (tS p n0 (ex p.v (.ext (.var i) e))) := by
  refine weakS (ps_expr (pe_bm PySem.F.plainAttrs_list PySem.F.slot_list_extend PySem.F.type_list_extend mt_extend (pe_varT g.N g.sc hv) (tE1 hs he) rfl ?_ hline (starEach_cons hs) rfl) rfl) fun De σ H q => ?_
  · rw [allNot (by simp [hs])]
    rfl
  · obtain ⟨F, m, sl, mem, rel, r⟩ := q
    simp only [ex] at r
    cases ho : isObj (.var i) sl mem with
    | false => rw [ho] at r; exact r.elim
    | true =>
      rw [ho, if_pos rfl] at r
      obtain ⟨q, vs, e1, e2⟩ := obj_ok rel ho
      refine ⟨.ref q, e1, .inl ⟨rfl, vs, SqL.of e2⟩, F, m, sl, mem, rel.co, rel.sl, (ResS.st (P := PR) rel r).mono fun v H1 ⟨F1, m1, d, mem1, rel1, st, pv, r1⟩ => ?_⟩
      obtain ⟨q', xs, us, ys, eq, e3, h3, e4, fin⟩ := chg_ok rel1 e1 r1 fun d d' h => extD_of h
      cases eq
      have b := RB.of rel1.co pv
      cases ed : deref mem1 d <;> rw [ed] at e4 b <;> first | (simp [extD] at e4; done) | skip
      obtain ⟨b', ws, rfl, e5, h5⟩ := b
      simp only [extD] at e4
      split at e4
      · rename_i hl
        cases e4
        exact ⟨q, b', us, ws, rfl, rfl, e3, e5, by rw [LIM_eq, ← h3.length, ← h5.length]; exact hl, fin _ (h3.append h5)⟩
      · cases e4
theorem pyIx_ixN {n : Nat} {i : Int} {j : Nat} (h : pyIx n i = some j) : ixN n i = some j := h
theorem s_set {i : Nat} {e ei : E} {x : Str} {ve ie : Expr} {vp sp pos : Pos} (g : GX G wf n k p X) (hv : varB k i x = true) (he : PE X ve (tE p e)) (hi : PE X ie (tE p ei)) (hsl : notSlice ie = true) :
    PS X (.Assign [.Subscript (.Name x vp) ie sp] ve pos) (tS p n0 (ex p.v (.set (.var i) ei e))) := by
  have hs : swapsWithSole [.Subscript (.Name x vp) ie sp] ve pos.line X.env = pure false := by cases ve <;> rfl
  have hw : swappedStores [.Subscript (.Name x vp) ie sp] ve X.env = pure none := by cases ve <;> rfl
  refine weakS (ps_asg he (pg_sub (pe_varT g.N g.sc hv) hi set_list (by intro v; cases ie <;> first | rfl | exact Bool.noConfusion hsl)) hs hw) fun De σ H q => ?_
  have q : tS p n0 (fun sl m => (ev p.v e sl m).st sl fun d m => if isObj (.var i) sl m then (ev p.v ei sl m).st sl fun kk m => chg (.var i) sl m fun c => setD c kk d else .stuck) De σ H := by
    have q2 : tS p n0 (fun sl m => ex p.v _ sl m) De σ H := q
    simp only [ex] at q2
    exact q2
  refine (tS.st (P := PV) q).mono fun v H1 ⟨F, m, H0, F1, m1, sl, d, mem1, rel, s0, _, _, pv, r⟩ => ?_
  cases ho : isObj (.var i) sl mem1 with
  | false => rw [ho] at r; exact r.elim
  | true =>
  rw [ho, if_pos rfl] at r
  obtain ⟨qq, _, hu, _⟩ := obj_ok rel ho
  refine ⟨_, hu, F1, m1, sl, mem1, rel.co, rel.sl, (ResS.st (P := PV) rel r).mono fun w H2 ⟨F2, m2, kk, mem2, rel2, st2, pk, r2⟩ => ?_⟩
  obtain ⟨q', xs, us, ys, eq, e3, h3, e4, fin⟩ := chg_ok rel2 hu r2 fun d d' h => setD_of h
  cases eq
  cases kk <;> first | (simp [setD] at e4; done) | skip
  rename_i z
  simp only [setD, Option.map_eq_some_iff] at e4
  obtain ⟨j, e5, e6⟩ := e4
  cases e6
  have ew : w = .int z := by simpa [PV, VD] using pk
  refine ⟨qq, us, z, j, rfl, ew, e3, ?_, fin _ (VDs.set (VD.step st2 pv) j h3)⟩
  rw [← h3.length]
  exact pyIx_ixN e5
end Lt

set_option Elab.async false
set_option linter.all false
set_option maxRecDepth 100000
set_option maxHeartbeats 8000000
/-! Lt16: the check of statements; it is sound. -/
namespace Lt
open PySem PySem.Spec PyProof.Rows L2
variable {X : Cx} {G : Tab} {wf n : Nat} {p : Pm} {n0 : En} {σ : L2.St} {De : Ends} {k : Ck}

/-! ### x, y = a, b -/
def parB (sc : Scope) (x y : Str) (px py : Pos) (a b : Expr) : Bool :=
  (sc.kind == .function) && decide (sc.names.lookup x = some .local) && decide (sc.names.lookup y = some .local) && (px.line == py.line) && !(y == x) && noStar a && noStar b && !([a, b].all (foldedForSure 8)) && !([a, b].all (constantsAlone 8))
theorem swapped2 {x y : Str} {px py kpt pt2 : Pos} {kt k2 : Nat} {a b : Expr} {env : Env} (h : parB env.scope x y px py a b = true) :
    swappedStores [.Tuple [.Name x px, .Name y py] kt kpt] (.Tuple [a, b] k2 pt2) env = pure (some [x, y]) := by
  unfold parB at h
  obtain ⟨h, h9⟩ := band h
  obtain ⟨h, h8⟩ := band h
  obtain ⟨h, h7⟩ := band h
  obtain ⟨h, h6⟩ := band h
  obtain ⟨h, h5⟩ := band h
  obtain ⟨h, h4⟩ := band h
  obtain ⟨h, h3⟩ := band h
  obtain ⟨h1, h2⟩ := band h
  have hb : env.blockKind = .function := by unfold Env.blockKind; rw [kind_eq h1]; rfl
  have kx : env.kindOf x = some .local := of_decide_eq_true h2
  have ky : env.kindOf y = some .local := of_decide_eq_true h3
  have sa : (match a with | .Starred .. => true | _ => false) = false := by cases a <;> first | rfl | exact Bool.noConfusion h6
  have sb : (match b with | .Starred .. => true | _ => false) = false := by cases b <;> first | rfl | exact Bool.noConfusion h7
  have e1 : px.line = py.line := by simpa using h4
  have e2 : ¬ y = x := by simpa using h5
  have e3 := bnot h8
  have e4 := bnot h9
  unfold swappedStores
  simp only [List.all_cons, List.all_nil, Bool.and_true] at e3 e4
  simp only [List.any_cons, List.any_nil, sa, sb, List.filterMap_cons, List.filterMap_nil, Expr.pos, List.head?_cons, Option.map_some, Option.getD_some, kx, ky, e1, hb, List.length_cons, List.length_nil, beq_self_eq_true, Bool.and_self, if_true, Bool.or_false, Bool.or_self, Bool.not_true, bne_self_eq_false, Bool.false_eq_true, if_false, List.all_cons, List.all_nil, Bool.and_true, e3, e4]
  have ed : [x, y].eraseDups = [x, y] := by simp [List.eraseDups_cons, e2]
  rw [ed]
  refine (if_neg (by decide)).trans ((if_neg fun hz => ?_).trans rfl)
  rw [Bool.or_eq_true] at hz
  rcases hz with hz | hz
  · cases a <;> first | exact Bool.noConfusion hz | exact Bool.noConfusion h6
  · cases b <;> first | exact Bool.noConfusion hz | exact Bool.noConfusion h7
theorem s_par2 {i j : Nat} {a b : E} {x y : Str} {ea eb : Expr} {px py pt pt2 pos : Pos} {kt k2 : Nat} (g : GX G wf n k p X) (hk : k.hot = false) (hi : k.N[i]? = some x) (hj : k.N[j]? = some y) (hij : i ≠ j) (h : parB k.sc x y px py ea eb = true)
    (ha : PA X [ea, eb] (tAs p [a, b])) : PS X (.Assign [.Tuple [.Name x px, .Name y py] kt pt] (.Tuple [ea, eb] k2 pt2) pos) (tS p n0 (ex p.v (.par2 i j a b))) := by
  have h' : parB X.env.scope x y px py ea eb = true := by rw [g.sc]; exact h
  have hx : X.env.scope.names.lookup x = some .local := by
    unfold parB at h'
    simp only [Bool.and_eq_true, decide_eq_true_eq] at h'
    exact h'.1.1.1.1.1.1.1.2
  have hy : X.env.scope.names.lookup y = some .local := by
    unfold parB at h'
    simp only [Bool.and_eq_true, decide_eq_true_eq] at h'
    exact h'.1.1.1.1.1.1.2
  refine weakS (ps_par (g.calm hk) g.nd (by rw [g.N]; exact hi) (by rw [g.N]; exact hj) hij hx hy ha (swapped2 h') rfl) fun De σ H q => ?_
  have q : tS p n0 (fun sl m => (evs p.v [a, b] sl m).st sl fun ds m => match ds with
    | [x, y] => .ok .nx (setS (setS sl i (.val x)) j (.val y)) m
    | _ => .stuck) De σ H := by
    obtain ⟨F, m, sl, mem, rel, r⟩ := q
    refine ⟨F, m, sl, mem, rel, ?_⟩
    simp only [ex] at r
    simp only [evs]
    cases e1 : ev p.v a sl mem with
    | stuck => rw [e1] at r; exact r.elim
    | exc _ _ => rw [e1] at r; exact r
    | ok x m1 =>
      rw [e1] at r
      simp only [R.st] at r
      simp only [R.bind]
      cases e2 : ev p.v b sl m1 with
      | stuck => rw [e2] at r; exact r.elim
      | exc _ _ => rw [e2] at r; exact r
      | ok y m2 => rw [e2] at r; exact r
  refine (tS.st (P := PVs) q).mono fun vs H1 ⟨F, m, H0, F1, m1, sl, ds, mem1, rel, _, _, _, pv, r⟩ => ?_
  match ds, pv, r with
  | [], _, r => exact r.elim
  | [_], _, r => exact r.elim
  | [d1, d2], pv, r =>
    simp only [PVs, VDs] at pv
    obtain ⟨w1, ws, rfl, p1, w2, ws2, rfl, p2, rfl⟩ := pv
    exact ⟨w1, w2, rfl, r _ _ _ _ Gr.refl ((rel.set p1).set p2)⟩
  | _ :: _ :: _ :: _, _, r => exact r.elim

/-! ### the check -/
def isFrz : S → Bool
  | .frz _ => true
  | _ => false
def varOf : E → Option Nat
  | .var i => some i
  | _ => none
mutual
def chk1 : S → Ck → Bool → Stmt → Bool
  | .asg t e, k, fr, st => match st with
    | .Assign [tg] v _ => !isIt e && chk e k v && (match t with
      | .nm i => (match tg with
        | .Name x py => decide (k.N[i]? = some x) && k.loc x && (noComp v || swB k.sc x py v)
        | _ => false)
      | .tp _ => !k.hot && isTupE tg && !isTupE v && chkT k.N k.loc t tg)
    | _ => false
  | .own i e, k, fr, st => match st with
    | .Assign [.Name x py] v _ => !isIt e && chk e k v && newB k.G e && decide (k.N[i]? = some x) && k.loc x && (noComp v || swB k.sc x py v)
    | _ => false
  | .thaw i e, k, fr, st => match st with
    | .Assign [.Name x py] v _ => !isIt e && chk e k v && newB k.G e && decide (k.N[i]? = some x) && k.loc x && (noComp v || swB k.sc x py v)
    | _ => false
  | .par2 i j a b, k, fr, st => match st with
    | .Assign [.Tuple [.Name x px, .Name y py] _ _] (.Tuple [ea, eb] _ _) _ => !k.hot && decide (k.N[i]? = some x) && decide (k.N[j]? = some y) && decide (i ≠ j) && parB k.sc x y px py ea eb && chks [a, b] k [ea, eb]
    | _ => false
  | .set o i e, k, fr, st => match o, st with
    | .var o, .Assign [.Subscript (.Name x _) ie _] v _ => varB k o x && notSlice ie && !isIt e && !isIt i && chk e k v && chk i k ie
    | _, _ => false
  | .app o e, k, fr, st => match o, st with
    | .var o, .Expr (.Call (.Attribute (.Name x _) nm ap) [ve] [] cp) _ => varB k o x && decide (nm = Str.ofString "append") && (ap.endLine == cp.line) && noStar ve && !isIt e && chk e k ve
    | _, _ => false
  | .ext o e, k, fr, st => match o, st with
    | .var o, .Expr (.Call (.Attribute (.Name x _) nm ap) [ve] [] cp) _ => varB k o x && decide (nm = Str.ofString "extend") && (ap.endLine == cp.line) && noStar ve && !isIt e && chk e k ve
    | _, _ => false
  | .exp e, k, fr, st => match st with
    | .Expr v _ => !isIt e && noComp v && chk e k v
    | _ => false
  | .ret gg e, k, fr, st => match st with
    | .Return (some v) _ => !isIt e && chk e k v && (match e with
      | .var _ => !fr || gg
      | e => !fr || gg || frE k.G e)
    | _ => false
  | .retN, k, fr, st => match st with
    | .Return none _ => true
    | _ => false
  | .never, _, _, _ => true
  | .iff c a b, k, fr, st => match st with
    | .If t as bs _ => !isIt c && !isIte c && chk c k t && chkB a k fr as && chkB b k fr bs
    | _ => false
  | .whl c b, k, fr, st => match st with
    | .While t bs [] _ => !k.hot && !isIt c && !isIte c && chk c k t && chkB b k fr bs
    | _ => false
  | .for t it b, k, fr, st => match st with
    | .For tg iter bs [] _ => !k.hot && (!needTup it || isTupE tg) && notSet iter && chk it k iter && chkT k.N k.loc t tg && chkB b k fr bs
    | _ => false
  | .pass, _, _, st => match st with
    | .Pass _ => true
    | _ => false
  | .brk, _, _, st => match st with
    | .Break _ => true
    | _ => false
  | .cnt, _, _, st => match st with
    | .Continue _ => true
    | _ => false
  | .frz _, _, _, _ => false
  | .raise _ _, _, _, _ => false
  | .tr _ _ _ _, _, _, _ => false
def chkB : List S → Ck → Bool → List Stmt → Bool
  | [], _, _, st => st.isEmpty
  | s :: r, k, fr, st => if isFrz s then chkB r k fr st else match st with
    | x :: xs => chk1 s k fr x && chkB r k fr xs
    | [] => false
end
theorem isFrz_of {s : S} (h : isFrz s = true) : ∃ i, s = .frz i := by
  cases s <;> first | exact ⟨_, rfl⟩ | exact Bool.noConfusion h
theorem isVar_of {e : E} : (∃ i, e = .var i) ∨ ∀ i, e ≠ .var i := by
  cases e <;> first | exact .inl ⟨_, rfl⟩ | exact .inr fun _ z => nomatch z
mutual
theorem s1 : ∀ (s : S) (k : Ck) (p : Pm) (X : Cx) (n0 : En) (st : Stmt), GY G wf n k p X → chk1 s k n0.fr st = true → PS X st (tS p n0 (ex p.v s))
  | .asg t e, k, p, X, n0, st, g, h => by
    unfold chk1 at h
    split at h
    · rename_i tg v pos
      obtain ⟨h, h3⟩ := band h
      obtain ⟨h1, h2⟩ := band h
      split at h3
      · split at h3
        · obtain ⟨h3, h6⟩ := band h3
          obtain ⟨h4, h5⟩ := band h3
          exact s_asgN (ps_store g.toGX h2 (bnot h1) (of_decide_eq_true h4) h5 h6)
        · cases h3
      · obtain ⟨h3, h7⟩ := band h3
        obtain ⟨h3, h6⟩ := band h3
        obtain ⟨h4, h5⟩ := band h3
        refine s_asgT ((snd e k p X v g.toGX h2).toE (bnot h1)) (pg_ok (g.calm (bnot h4)) g.N g.nd g.loc _ tg h7) (fun es kk q z => ?_) (isTup_of h5)
        subst z
        exact Bool.noConfusion h6
    · cases h
  | .own i e, k, p, X, n0, st, g, h => by
    unfold chk1 at h
    split at h
    · obtain ⟨h, h6⟩ := band h
      obtain ⟨h, h5⟩ := band h
      obtain ⟨h, h4⟩ := band h
      obtain ⟨h, h3⟩ := band h
      obtain ⟨h1, h2⟩ := band h
      rw [g.hG] at h3
      exact s_own g.toGX h3 h2 (ps_store g.toGX h2 (bnot h1) (of_decide_eq_true h4) h5 h6)
    · cases h
  | .thaw i e, k, p, X, n0, st, g, h => by
    unfold chk1 at h
    split at h
    · obtain ⟨h, h6⟩ := band h
      obtain ⟨h, h5⟩ := band h
      obtain ⟨h, h4⟩ := band h
      obtain ⟨h, h3⟩ := band h
      obtain ⟨h1, h2⟩ := band h
      rw [g.hG] at h3
      exact s_thaw g.toGX h3 h2 (ps_store g.toGX h2 (bnot h1) (of_decide_eq_true h4) h5 h6)
    · cases h
  | .par2 i j a b, k, p, X, n0, st, g, h => by
    unfold chk1 at h
    split at h
    · obtain ⟨h, h6⟩ := band h
      obtain ⟨h, h5⟩ := band h
      obtain ⟨h, h4⟩ := band h
      obtain ⟨h, h3⟩ := band h
      obtain ⟨h1, h2⟩ := band h
      exact s_par2 g.toGX (bnot h1) (of_decide_eq_true h2) (of_decide_eq_true h3) (of_decide_eq_true h4) h5 (snds _ k p X _ g.toGX h6).1
    · cases h
  | .set o i e, k, p, X, n0, st, g, h => by
    unfold chk1 at h
    split at h
    · obtain ⟨h, h6⟩ := band h
      obtain ⟨h, h5⟩ := band h
      obtain ⟨h, h4⟩ := band h
      obtain ⟨h, h3⟩ := band h
      obtain ⟨h1, h2⟩ := band h
      exact s_set g.toGX h1 ((snd e k p X _ g.toGX h5).toE (bnot h3)) ((snd i k p X _ g.toGX h6).toE (bnot h4)) h2
    · cases h
  | .app o e, k, p, X, n0, st, g, h => by
    unfold chk1 at h
    split at h
    · obtain ⟨h, h6⟩ := band h
      obtain ⟨h, h5⟩ := band h
      obtain ⟨h, h4⟩ := band h
      obtain ⟨h, h3⟩ := band h
      obtain ⟨h1, h2⟩ := band h
      have h2 := of_decide_eq_true h2
      subst h2
      exact s_app g.toGX h1 h4 ((snd e k p X _ g.toGX h6).toE (bnot h5)) h3
    · cases h
  | .ext o e, k, p, X, n0, st, g, h => by
    unfold chk1 at h
    split at h
    · obtain ⟨h, h6⟩ := band h
      obtain ⟨h, h5⟩ := band h
      obtain ⟨h, h4⟩ := band h
      obtain ⟨h, h3⟩ := band h
      obtain ⟨h1, h2⟩ := band h
      have h2 := of_decide_eq_true h2
      subst h2
      exact s_ext g.toGX h1 h4 ((snd e k p X _ g.toGX h6).pr (bnot h5)) h3
    · cases h
  | .exp e, k, p, X, n0, st, g, h => by
    unfold chk1 at h
    split at h
    · obtain ⟨h, h3⟩ := band h
      obtain ⟨h1, h2⟩ := band h
      exact s_exp ((snd e k p X _ g.toGX h3).toE (bnot h1)) h2
    · cases h
  | .ret gg e, k, p, X, n0, st, g, h => by
    unfold chk1 at h
    split at h
    · rename_i v pos
      obtain ⟨h, h3⟩ := band h
      obtain ⟨h1, h2⟩ := band h
      rcases isVar_of (e := e) with ⟨i, rfl⟩ | hv
      · unfold chk at h2
        split at h2
        · exact s_retV g.toGX h2 h3
        · cases h2
      · refine s_ret hv ((snd e k p X _ g.toGX h2).pe (bnot h1)) ?_
        rw [← g.hG]
        cases e <;> first | exact h3 | exact absurd rfl (hv _)
    · cases h
  | .retN, k, p, X, n0, st, g, h => by
    unfold chk1 at h
    split at h
    · exact s_retN
    · cases h
  | .never, k, p, X, n0, st, g, h => s_never
  | .iff c a b, k, p, X, n0, st, g, h => by
    unfold chk1 at h
    split at h
    · obtain ⟨h, h5⟩ := band h
      obtain ⟨h, h4⟩ := band h
      obtain ⟨h, h3⟩ := band h
      obtain ⟨h1, h2⟩ := band h
      exact s_iff ((snd c k p X _ g.toGX h3).pt (bnot h1) (bnot h2)).1 (sB a k p X n0 _ g h4) (sB b k p X n0 _ g h5)
    · cases h
  | .whl c b, k, p, X, n0, st, g, h => by
    unfold chk1 at h
    split at h
    · obtain ⟨h, h5⟩ := band h
      obtain ⟨h, h4⟩ := band h
      obtain ⟨h, h3⟩ := band h
      obtain ⟨h1, h2⟩ := band h
      exact s_whl (g.pass (bnot h1)) ((snd c k p X _ g.toGX h4).pt (bnot h2) (bnot h3)).1 (sB b k p X n0 _ g h5)
    · cases h
  | .for t it b, k, p, X, n0, st, g, h => by
    unfold chk1 at h
    split at h
    · rename_i tg iter bs pos
      obtain ⟨h, h6⟩ := band h
      obtain ⟨h, h5⟩ := band h
      obtain ⟨h, h4⟩ := band h
      obtain ⟨h, h3⟩ := band h
      obtain ⟨h1, h2⟩ := band h
      have hk := bnot h1
      have hi : PI X tg iter (tI p it) := by
        have s := snd it k p X _ g.toGX h4
        cases hn : needTup it with
        | true =>
          rw [hn] at h2
          obtain ⟨es, kk, tp, rfl⟩ := isTup_of (show isTupE tg = true from h2)
          exact s.piT hn es kk tp
        | false =>
          cases hi : isIt it with
          | true => exact s.pi hi hn tg
          | false => exact pi_any (s.toE hi)
      exact s_for (g.pass hk) (g.calm hk) hi (pg_ok (g.calm hk) g.N g.nd g.loc t tg h5) (sB b k p X n0 _ g h6) (folded h3)
    · cases h
  | .pass, k, p, X, n0, st, g, h => by
    unfold chk1 at h
    split at h
    · exact s_pass
    · cases h
  | .brk, k, p, X, n0, st, g, h => by
    unfold chk1 at h
    split at h
    · exact s_brk
    · cases h
  | .cnt, k, p, X, n0, st, g, h => by
    unfold chk1 at h
    split at h
    · exact s_cnt
    · cases h
  | .frz _, k, p, X, n0, st, g, h => by unfold chk1 at h; cases h
  | .raise _ _, k, p, X, n0, st, g, h => by unfold chk1 at h; cases h
  | .tr _ _ _ _, k, p, X, n0, st, g, h => by unfold chk1 at h; cases h
theorem sB : ∀ (s : List S) (k : Ck) (p : Pm) (X : Cx) (n0 : En) (st : List Stmt), GY G wf n k p X → chkB s k n0.fr st = true → PSs X st (tS p n0 (exs p.v s))
  | [], k, p, X, n0, st, g, h => by
    unfold chkB at h
    rw [List.isEmpty_iff] at h
    subst h
    refine weakB pss_nil fun De σ H ⟨F, m, sl, mem, rel, r⟩ => ?_
    simp only [exs] at r
    exact r _ _ _ _ Gr.refl rel
  | s :: r, k, p, X, n0, st, g, h => by
    unfold chkB at h
    split at h
    · rename_i hf
      have ih := sB r k p X n0 st g h
      obtain ⟨i, rfl⟩ := isFrz_of hf
      refine weakB ih fun De σ H ⟨F, m, sl, mem, rel, q⟩ => ?_
      simp only [exs, ex] at q
      cases e : getS sl i with
      | own d =>
        rw [e] at q
        obtain ⟨F', g', rel'⟩ := rel.frz e
        exact ⟨F', m, _, mem, rel', ResS.gr g' q⟩
      | no => rw [e] at q; exact ⟨F, m, sl, mem, rel, q⟩
      | val d => rw [e] at q; exact ⟨F, m, sl, mem, rel, q⟩
      | exn c => rw [e] at q; exact ⟨F, m, sl, mem, rel, q⟩
    · split at h
      · obtain ⟨h1, h2⟩ := band h
        refine weakB (pss_cons (s1 s k p X n0 _ g h1) (sB r k p X n0 _ g h2)) fun De σ H ⟨F, m, sl, mem, rel, q⟩ => ?_
        simp only [exs] at q
        exact ⟨F, m, sl, mem, rel, ResS.andThen q⟩
      · cases h
end
end Lt

set_option Elab.async false
set_option linter.all false
set_option maxRecDepth 100000
set_option maxHeartbeats 8000000
/-! Lt17: defs keep what `call` promises; the end of a law. -/
namespace Lt
open PySem PySem.Spec PyProof.Rows L2
variable {F F' F1 F2 : Hp} {m m' m1 m2 : List Addr} {H H' H1 H2 B : Hp} {mem mem' mem1 mem2 : Mem} {X : Cx} {G : Tab} {wf n : Nat}

def locB (sc : Scope) (x : Str) : Bool := match sc.names.lookup x with
  | some .local => true
  | some .cell => true
  | _ => false
theorem locB_ok {sc : Scope} {x : Str} (h : locB sc x = true) : Loc sc x := by
  unfold locB at h
  split at h <;> first | exact .inl (by assumption) | exact .inr (by assumption) | cases h
abbrev ckOf (G : Tab) (N : List Str) (sc : Scope) : Ck := ⟨G, N, sc, locB sc, false⟩
/-- a def of the text and its term -/
structure DefOk (G : Tab) (K : PySem.W.Frag) (mg : Str → Option Value) (f : String) (d : Fn) : Prop where
  ex : ∃ (a : Addr) (fd : FuncData) (x : Str) (st : Stmt) (N : List Str), mg (Str.ofString f) = some (.ref a) ∧ FunD K x x (defArgs st) (defBody st) (defScope st) [] [] a fd ∧ FnScope N (pst d.ps) (defScope st) ∧ N.length = d.n ∧
    Binds K fd (pst d.ps) [] ∧ chkB d.body (ckOf G N (defScope st)) d.fresh (defBody st) = true
/-- what the table asks of the module -/
structure TabOk (G : Tab) (K : PySem.W.Frag) (mg : Str → Option Value) : Prop where
  fn : ∀ f d, G.fn f = some d → DefOk G K mg f d
  blt : ∀ x, x ∈ allBlt → mg (Str.ofString x) = none
  gl : ∀ x d, G.gl x = some d → ∃ u v, mg (Str.ofString x) = some u ∧ RelV v u ∧ ∀ F m, VD F m d v
theorem slots_start {N : List Str} {ds : List D} {vs : List V} {k : Nat} (hv : VDs F m ds vs) (hl : ds.length ≤ k) (hN : N.length = k) : Slots B F m H none (ds.map .val ++ List.replicate (k - ds.length) .no) (L2.start N vs) := by
  have get : ∀ i, (∃ d v, getS (ds.map SV.val ++ List.replicate (k - ds.length) .no) i = .val d ∧ (L2.start N vs)[i]? = some (some v) ∧ VD F m d v) ∨ getS (ds.map SV.val ++ List.replicate (k - ds.length) .no) i = .no := by
    intro i
    have hz : ∀ (l : Sl) i, getS l i = l.getD i .no := by
      intro l
      induction l with
      | nil => intro i; simp
      | cons a l ih => intro i; cases i with
        | zero => rfl
        | succ i => simpa using ih i
    rw [hz]
    by_cases hi : i < ds.length
    · left
      have hd : ds[i]? = some ds[i] := List.getElem?_eq_getElem hi
      obtain ⟨w, h1, h2⟩ := hv.get hd
      refine ⟨ds[i], w, ?_, ?_, h2⟩
      · rw [List.getD_eq_getElem?_getD, List.getElem?_append_left (by simpa using hi), List.getElem?_map, hd]; rfl
      · unfold L2.start
        rw [List.getElem?_append_left (by rw [List.length_map, ← hv.length]; exact hi), List.getElem?_map, h1]; rfl
    · right
      rw [List.getD_eq_getElem?_getD, List.getElem?_append_right (by simpa using hi), List.getElem?_replicate]
      split <;> rfl
  refine ⟨?_, fun i => ?_, fun i j d1 d2 a hij h1 => ?_⟩
  · unfold L2.start
    simp only [List.length_append, List.length_map, List.length_replicate]
    rw [hv.length, hN]
  · rcases get i with ⟨d, v, h1, h2, h3⟩ | h1
    · rw [h1]; exact ⟨v, h2, h3⟩
    · rw [h1]; trivial
  · rcases get i with ⟨d, v, h2, _, _⟩ | h2
    · rw [h2] at h1; cases h1
    · rw [h2] at h1; cases h1
/-- the function object at a -/
def FnAt (K : PySem.W.Frag) (a : Addr) (fd : FuncData) : Prop := ∃ (oc : Value) (od : Option Addr) (osl : Array (Option Value)), K.lookup a = some ⟨oc, od, .func fd, osl⟩
theorem FnAt.of {K : PySem.W.Frag} {x qual : Str} {params : Arguments} {body : List Stmt} {scope : Scope} {dvs : List V} {kws : List (Str × V)} {f : Addr} {fd : FuncData} (F : FunD K x qual params body scope dvs kws f fd) : FnAt K f fd := by
  obtain ⟨oc, od, _, _, _, _, _, _, _, osl, _, h, _⟩ := F.ex
  exact ⟨oc, od, osl, h⟩
theorem FnAt.one {K : PySem.W.Frag} {a : Addr} {fd fd' : FuncData} (h : FnAt K a fd) (h' : FnAt K a fd') : fd = fd' := by
  obtain ⟨_, _, _, e⟩ := h
  obtain ⟨_, _, _, e'⟩ := h'
  rw [e] at e'
  cases e'
  rfl
theorem all_ok {P : Program} {w : World} {K : PySem.W.Frag} {mg : Str → Option Value} {base : Heap} {xr : XR} (T : TabOk G K mg) : ∀ n f d, G.fn f = some d →
    ∃ a fd, mg (Str.ofString f) = some (.ref a) ∧ PySem.W.keepIn K (.ref a) = true ∧ FnOk P w K mg base (L2.CX P w) n a fd (pst d.ps) (spOf G wf xr n f) ∧ Binds K fd (pst d.ps) [] ∧ FnAt K a fd
  | 0, f, d, hf => by
    obtain ⟨a, fd, x, st, N, h1, h2, h3, h4, h5, h6⟩ := (T.fn f d hf).ex
    have no : ∀ vs H Q E, ¬ spOf G wf xr 0 f vs H Q E := fun vs H Q E ⟨d, F, m, mem, ds, _, _, _, _, r⟩ => r
    exact ⟨a, fd, h1, h2.kp, ⟨fun vs H Q E h => (no _ _ _ _ h).elim, fun A outer s H args us vs Q E _ _ _ _ h => (no _ _ _ _ h).elim⟩, h5, .of h2⟩
  | n + 1, f, d, hf => by
    obtain ⟨a, fd, x, st, N, h1, h2, h3, h4, h5, h6⟩ := (T.fn f d hf).ex
    refine ⟨a, fd, h1, h2.kp, ?_, h5, .of h2⟩
    refine FunD.ok (CX := L2.CX P w) h2 h3 (fun vs H Q E h => ?_) fun cdv A outer s H vs Q E hr h => ?_
    · obtain ⟨d', F, m, mem, ds, e, c, hv, hl, r⟩ := h
      rw [hf] at e
      cases e
      rw [← hv.length, hl, List.length_map]
    · obtain ⟨d', F, m, mem, ds, e, c, hv, hl, r⟩ := h
      rw [hf] at e
      cases e
      let X : Cx := cxOf (L2.CX P w) P w K mg base N x (defScope st) a cdv A outer s H E
      let p : Pm := ⟨xr, H, none, cvOf G wf n, fun cls dd _ H' => E cls dd H'⟩
      let n0 : En := ⟨F, m, d.fresh⟩
      have hpl : (pst d.ps).length ≤ N.length := by have := congrArg List.length h3.pre; rw [List.length_take] at this; omega
      have g : GY G wf n (ckOf G N (defScope st)) p X := {
        hG := rfl
        v := rfl
        N := rfl
        sc := rfl
        nd := h3.nd
        un := hr.units
        room := fun _ => hr
        calm := fun _ => rfl
        tk := takes_of rfl rfl rfl rfl
        loc := fun y hy => ⟨locB_ok hy, .inl rfl⟩
        fns := fun f d hf => let ⟨a, fd, h1, h2, h3, h4, _⟩ := all_ok T n f d hf; ⟨a, fd, h1, h2, h3, h4⟩
        blt := T.blt
        gl := T.gl
        pass := fun _ => passes_of rfl }
      refine ⟨_, sB d.body (ckOf G N (defScope st)) p X n0 (defBody st) g h6, F, m, _, mem, ⟨Step.refl, c, slots_start (k := d.n) hv (by rw [hl, ← h4]; simpa using hpl) h4⟩, ?_⟩
      have e2 : call G wf (n + 1) f ds mem = match exs (cvOf G wf n) d.body (ds.map .val ++ List.replicate (d.n - d.ps.length) .no) mem with
        | .ok (.ret x) _ m => .ok x m
        | .ok .nx _ m => .ok .non m
        | .exc x _ m => .exc x m
        | _ => .stuck := by
        rw [call, hf]
        simp only [hl, if_true] <;> rfl
      rw [e2] at r
      rw [hl]
      show ResS p n0 F m _ (exs (cvOf G wf n) d.body (ds.map .val ++ List.replicate (d.n - d.ps.length) .no) mem)
      revert r
      generalize exs (cvOf G wf n) d.body (ds.map .val ++ List.replicate (d.n - d.ps.length) .no) mem = res
      intro r
      match res, r with
      | .ok .nx sl mem', r => exact fun F' m' H' σ' _ rel => r .non F' m' H' rel.st rel.co (by cases d.fresh <;> simp [rlF, PF, PV, VD])
      | .ok .brk sl mem', r => exact r.elim
      | .ok .cnt sl mem', r => exact r.elim
      | .ok (.ret x) sl mem', r => exact fun F' m' H' v st c q => r v F' m' H' st c q
      | .exc x sl mem', r => exact fun cls dd F' m' H' σ' _ rel q => r cls dd F' m' H' rel.st rel.co q
      | .stuck, r => exact r.elim
/-- no exception leaves -/
theorem fn_calm {P : Program} {w : World} {K : PySem.W.Frag} {mg : Str → Option Value} {base : Heap} {k : Nat} {f : Addr} {fd : FuncData} {ps : List Str} {sp : Sp} (F : FnOk P w K mg base (L2.CX P w) k f fd ps sp) :
    FnOk P w K mg base CX0 k f fd ps (fun vs H Q _ => sp vs H Q fun _ _ _ => False) :=
  ⟨fun vs H Q E h => F.len vs H Q _ h, fun A outer s H args us vs Q E hr e0 hb hv h => codeAny_mono (F.run A outer s H args us vs Q _ hr e0 hb hv h) fun r s' q => by
    cases r with
    | error e =>
      obtain ⟨_, _, _, _, _, _, _, _, _, _, _, _, z⟩ := (show L2.CX P w outer H s (fun _ _ _ => False) e s' from q)
      exact z.elim
    | ok fl => cases fl <;> exact q⟩
theorem mem_lookup {α β : Type} [BEq α] [LawfulBEq α] {a : α} {b : β} : ∀ {l : List (α × β)}, l.lookup a = some b → (a, b) ∈ l
  | [], h => by simp at h
  | (c, d) :: l, h => by
    rw [List.lookup_cons] at h
    split at h
    · rename_i e
      cases h
      rw [beq_iff_eq.mp e]
      exact List.mem_cons_self
    · exact List.mem_cons_of_mem _ (mem_lookup h)
/-- no list is an object of the module -/
def noLst (K : PySem.W.Frag) : Bool := K.all fun p => match p.2.cls with
  | .type n => n != "list"
  | _ => true
theorem noLst_ok {K : PySem.W.Frag} (h : noLst K = true) {a : Addr} {o : Obj} (e : K.lookup a = some o) : o.cls ≠ .type "list" := by
  intro z
  have hm := mem_lookup e
  have := List.all_eq_true.mp h _ hm
  simp only [z] at this
  exact absurd this (by decide)
theorem script_ok {K : PySem.W.Frag} (hn : noLst K = true) {a : Addr} {xs : List V} (hO : Only H) (hS : SqL K H a xs) : ∃ o, H a = some (.frz o (.lst xs)) := by
  rcases hS with hS | ⟨o, its, k, e, hc, _⟩
  · rcases hS with hS | hS
    · rcases hO a with z | ⟨o, ys, z⟩
      · rw [hS] at z; cases z
      · rw [hS] at z; cases z
    · exact hS
  · exact absurd hc (noLst_ok hn e)
theorem ints_VDs : ∀ ns : List Int, VDs F m (ns.map D.int) (ns.map V.int)
  | [] => VDs.nil
  | n :: ns => VDs.cons (by simp [VD]) (ints_VDs ns)
/-- the law's promise -/
def spLaw (G : Tab) (wf n : Nat) : Sp := fun vs H Q _ => spOf G wf (fun _ _ _ _ => True) n "law" vs H Q fun _ _ _ => False
theorem law_ok {P : Program} {w : World} {K : PySem.W.Frag} {mg : Str → Option Value} {base : Heap} {fa : Addr} {fd : FuncData} {d : Fn} {script : String} (T : TabOk G K mg) (hf : G.fn "law" = some d) (hps : d.ps = [script])
    (hm : mg ("law" : Str) = some (.ref fa)) (hA : FnAt K fa fd) : FnOk P w K mg base CX0 n fa fd [Str.ofString script] (spLaw G wf n) := by
  obtain ⟨a, fd', h1, h2, h3, h4, h5⟩ := all_ok (P := P) (w := w) (base := base) (wf := wf) (xr := fun _ _ _ _ => True) T n "law" d hf
  have e : a = fa := by
    have := h1.symm.trans hm
    cases this
    rfl
  subst e
  have e2 := h5.one hA
  subst e2
  rw [hps] at h3
  exact fn_calm h3
theorem law_sp {K : PySem.W.Frag} {d : Fn} {script : String} (hn : noLst K = true) (hf : G.fn "law" = some d) (hps : d.ps = [script])
    (hlaw : ∀ ns : List Int, ns.length ≤ 63 → ∃ mem, call G wf n "law" [.fro (ns.map .int)] [] = .ok (.bl true) mem) :
    ∀ (H : Hp) (a : Addr) (ns : List Int), ns.length ≤ 63 → Only H → SqL K H a (ns.map V.int) → spLaw G wf n [.ref a] H (fun v _ => v = .bl true) fun _ _ _ => False := by
  intro H a ns hl hO hS
  obtain ⟨o, ho⟩ := script_ok hn hO hS
  obtain ⟨mem, hr⟩ := hlaw ns hl
  refine ⟨d, H, [], [], [.fro (ns.map .int)], hf, ⟨fun _ _ h => h, rfl, List.nodup_nil, fun j a d h => by simp at h⟩, ?_, by rw [hps]; rfl, ?_⟩
  · refine VDs.cons ?_ VDs.nil
    simp only [VD]
    exact ⟨a, o, _, rfl, ho, ints_VDs ns⟩
  · rw [hr]
    intro v F' m' H' st c hv
    revert hv
    cases d.fresh <;> (intro hv; simpa [rlF, PF, PV, VD] using hv)

/-! ### the head -/
abbrev AlL : Type := Bool × He.AlD
def obsL (n : Nat) (fa : List He.Fa) (fn : List He.DefD) (g : Addr → Option Obj) : AlL := (noLst (He.frG g (He.asD g n)), He.obsD fa fn (He.frG g (He.asD g n)))
def hookL (n : Nat) (fa : List He.Fa) (fn : List He.DefD) : PySem.W.Hook where
  α := AlL
  obs := fun s => obsL n fa fn s.heap.get?
  val := fun _ => (true, He.valD fn)
  says := fun _ h => ∃ K : PySem.W.Frag, K.In h ∧ noLst K = true ∧ He.SaysD fa fn K
  of := fun _ _ e => ⟨_, He.frG_in, congrArg (fun z : AlL => z.1) e, congrArg (fun z : AlL => z.2) e⟩
  keeps := fun _ _ _ ⟨K, hK, c⟩ k => ⟨K, PySem.W.Frag.In.keeps hK k, c⟩
theorem obsL_eq {n : Nat} {fa : List He.Fa} {fn : List He.DefD} {g : Addr → Option Obj} {s : Shared} (h : ∀ a, g a = s.heap.get? a) : obsL n fa fn g = (hookL n fa fn).obs s := by
  have e : g = s.heap.get? := funext h
  rw [e] <;> rfl
/-! ### tables -/
def AllP {β : Type} (P : String → β → Prop) : List (String × β) → Prop
  | [] => True
  | q :: l => P q.1 q.2 ∧ AllP P l
theorem AllP.get {β : Type} {P : String → β → Prop} : ∀ {l : List (String × β)}, AllP P l → ∀ {f : String} {d : β}, l.lookup f = some d → P f d
  | [], _, f, d, e => by simp at e
  | (c, b) :: l, h, f, d, e => by
    rw [List.lookup_cons] at e
    split at e
    · rename_i z
      cases e
      rw [beq_iff_eq.mp z]
      exact h.1
    · exact AllP.get h.2 e
end Lt

set_option linter.all false
set_option maxRecDepth 100000
namespace Lt
/-- slots: 0 value 1 letter -/
def f_is_name : Fn := ⟨["value"], 2, false, [(.iff (.or (.not (.isi (.var 0) [.str])) (.or (.cmp .eq (.var 0) (.lit (.str []))) (.cmp .gt (.blt .len [(.var 0)]) (.glob "LONGEST" (.int (12)))))) [(.ret false (.lit (.bl false)))] []),
(.ret false (.blt .all [(.lc (.nm 1) (.var 0) .omit (.cmp .isin (.var 1) (.glob "LETTERS" (.str [97, 98, 99, 100, 101, 102, 103, 104, 105, 106, 107, 108, 109, 110, 111, 112, 113, 114, 115, 116, 117, 118, 119, 120, 121, 122]))))]))]⟩
/-- slots: 0 value 1 sign -/
def f_is_signs : Fn := ⟨["value"], 2, false, [(.ret false (.and (.isi (.var 0) [.str]) (.and (.cmp .ne (.var 0) (.lit (.str []))) (.blt .all [(.lc (.nm 1) (.var 0) .omit (.and (.chain .le .le (.lit (.str [32])) (.var 1) (.lit (.str [126]))) (.cmp .notin (.var 1) (.lit (.str [60, 62])))))]))))]⟩
/-- slots: 0 value -/
def f_is_token : Fn := ⟨["value"], 1, false, [(.iff (.or (.not (.isi (.var 0) [.tuple])) (.or (.cmp .ne (.blt .len [(.var 0)]) (.lit (.int (2)))) (.not (.isi (.idx (.var 0) (.lit (.int (0)))) [.str])))) [(.ret false (.lit (.bl false)))] []),
(.ret false (.ite (.cmp .eq (.idx (.var 0) (.lit (.int (0)))) (.glob "TEXT" (.str [116, 101, 120, 116]))) (.call "is_signs" [(.idx (.var 0) (.lit (.int (1))))]) (.and (.cmp .isin (.idx (.var 0) (.lit (.int (0)))) (.tup [(.glob "START" (.str [115, 116, 97, 114, 116])), (.glob "END" (.str [101, 110, 100]))])) (.call "is_name" [(.idx (.var 0) (.lit (.int (1))))]))))]⟩
/-- slots: 0 inner 1 word 2 name -/
def f_tag_in : Fn := ⟨["inner"], 3, true, [(.asg (.tp [(.nm 1), (.nm 2)]) (.ite (.cmp .eq (.slc (.var 0) .omit (.lit (.int (1)))) (.lit (.str [47]))) (.tup [(.glob "END" (.str [101, 110, 100])), (.slc (.var 0) (.lit (.int (1))) .omit)]) (.tup [(.glob "START" (.str [115, 116, 97, 114, 116])), (.var 0)]))),
(.ret true (.ite (.call "is_name" [(.var 2)]) (.tup [(.var 1), (.var 2)]) (.lit .non)))]⟩
/-- slots: 0 text 1 found 2 at 3 behind 4 token -/
def f_pieces_in_c1 : E := (.cmp .lt (.var 2) (.blt .len [(.var 0)]))
def f_pieces_in_b2 : List S := [(.iff (.cmp .eq (.idx (.var 0) (.var 2)) (.lit (.str [60]))) [(.asg (.nm 3) (.bin .add (.mth .find2 (.var 0) [(.lit (.str [62])), (.var 2)]) (.lit (.int (1))))),
(.asg (.nm 4) (.ite (.cmp .gt (.var 3) (.lit (.int (0)))) (.call "tag_in" [(.slc (.var 0) (.bin .add (.var 2) (.lit (.int (1)))) (.bin .sub (.var 3) (.lit (.int (1)))))]) (.lit .non)))] [(.asg (.nm 3) (.mth .find2 (.var 0) [(.lit (.str [60])), (.var 2)])),
(.asg (.nm 3) (.ite (.cmp .lt (.var 3) (.lit (.int (0)))) (.blt .len [(.var 0)]) (.var 3))),
(.asg (.nm 4) (.ite (.call "is_signs" [(.slc (.var 0) (.var 2) (.var 3))]) (.tup [(.glob "TEXT" (.str [116, 101, 120, 116])), (.slc (.var 0) (.var 2) (.var 3))]) (.lit .non)))]),
(.iff (.cmp .is (.var 4) (.lit .non)) [(.ret true (.lit .non))] []),
(.app (.var 1) (.tup [(.var 4), (.var 2), (.var 3)])),
(.asg (.nm 2) (.var 3))]
def f_pieces_in : Fn := ⟨["text"], 5, true, [(.own 1 (.lst [])),
(.asg (.nm 2) (.lit (.int (0)))),
(.whl f_pieces_in_c1 f_pieces_in_b2),
(.ret true (.var 1))]⟩
/-- slots: 0 text 1 found -/
def f_checked_pieces : Fn := ⟨["text"], 2, false, [(.asg (.nm 1) (.ite (.isi (.var 0) [.str]) (.call "pieces_in" [(.var 0)]) (.lit .non))),
(.iff (.cmp .is (.var 1) (.lit .non)) [.never] []),
(.ret false (.var 1))]⟩
/-- slots: 0 tokens 1 token -/
def f_check_tokens : Fn := ⟨["tokens"], 2, true, [(.iff (.or (.not (.isi (.var 0) [.list])) (.not (.blt .all [(.lc (.nm 1) (.var 0) .omit (.call "is_token" [(.var 1)]))]))) [.never] [])]⟩
/-- slots: 0 token 1 word 2 value -/
def f_written_token : Fn := ⟨["token"], 3, false, [(.asg (.tp [(.nm 1), (.nm 2)]) (.var 0)),
(.iff (.cmp .eq (.var 1) (.glob "TEXT" (.str [116, 101, 120, 116]))) [(.ret false (.var 2))] []),
(.ret false (.ite (.cmp .eq (.var 1) (.glob "START" (.str [115, 116, 97, 114, 116]))) (.bin .add (.bin .add (.lit (.str [60])) (.var 2)) (.lit (.str [62]))) (.bin .add (.bin .add (.lit (.str [60, 47])) (.var 2)) (.lit (.str [62])))))]⟩
/-- slots: 0 tokens 1 token -/
def f_written : Fn := ⟨["tokens"], 2, false, [(.ret false (.mth .join (.lit (.str [])) [(.lc (.nm 1) (.var 0) .omit (.call "written_token" [(.var 1)]))]))]⟩
/-- slots: 0 text 1 token 2 first 3 behind -/
def f_tokens_of : Fn := ⟨["text"], 4, true, [(.ret false (.lc (.tp [(.nm 1), (.nm 2), (.nm 3)]) (.call "checked_pieces" [(.var 0)]) .omit (.var 1)))]⟩
/-- slots: 0 tokens -/
def f_text_of : Fn := ⟨["tokens"], 1, false, [(.exp (.call "check_tokens" [(.var 0)])),
(.ret false (.call "written" [(.var 0)]))]⟩
/-- slots: 0 text 1 token 2 first 3 behind -/
def f_places_of : Fn := ⟨["text"], 4, true, [(.ret false (.lc (.tp [(.nm 1), (.nm 2), (.nm 3)]) (.call "checked_pieces" [(.var 0)]) .omit (.tup [(.var 2), (.var 3)])))]⟩
/-- slots: 0 _law_script 1 _law_k -/
def f__law_cell_at : Fn := ⟨["_law_script", "_law_k"], 2, false, [(.iff (.cmp .lt (.var 1) (.blt .len [(.var 0)])) [(.ret false (.idx (.var 0) (.var 1)))] []),
(.ret false (.lit (.int (0))))]⟩
/-- slots: 0 _law_cell 1 _law_k 2 _law_small -/
def f__law_source : Fn := ⟨["_law_cell", "_law_k"], 3, true, [(.asg (.nm 2) (.bin .mod (.blt .int [(.var 0)]) (.lit (.int (162259276829213363391578010288127))))),
(.ret false (.lst [(.blt .max2 [(.lit (.int (0))), (.bin .sub (.var 0) (.bin .pow (.lit (.int (10))) (.lit (.int (18)))))]), (.bin .add (.var 2) (.bin .mul (.lit (.int (7919))) (.bin .add (.var 1) (.lit (.int (1)))))), (.lit (.int (0)))]))]⟩
/-- slots: 0 _law_source_here 1 _law_count 2 _law_mixed 3 _law_found -/
def f__law_draw : Fn := ⟨["_law_source_here", "_law_count"], 4, false, [(.iff (.cmp .gt (.idx (.var 0) (.lit (.int (0)))) (.lit (.int (1)))) [(.asg (.nm 3) (.bin .mod (.blt .int [(.idx (.var 0) (.lit (.int (0))))]) (.var 1))),
(.set (.var 0) (.lit (.int (0))) (.bin .fdiv (.idx (.var 0) (.lit (.int (0)))) (.var 1))),
(.ret false (.var 3))] []),
(.set (.var 0) (.lit (.int (2))) (.bin .add (.idx (.var 0) (.lit (.int (2)))) (.lit (.int (1))))),
(.asg (.nm 2) (.bin .mod (.blt .int [(.bin .pow (.bin .add (.idx (.var 0) (.lit (.int (1)))) (.bin .mul (.lit (.int (1299709))) (.idx (.var 0) (.lit (.int (2)))))) (.lit (.int (3))))]) (.lit (.int (162259276829213363391578010288127))))),
(.asg (.nm 2) (.bin .mod (.blt .int [(.bin .pow (.bin .add (.var 2) (.bin .mul (.lit (.int (15485863))) (.idx (.var 0) (.lit (.int (2)))))) (.lit (.int (5))))]) (.lit (.int (618970019642690137449562111))))),
(.ret false (.bin .mod (.blt .int [(.bin .fdiv (.var 2) (.lit (.int (1048576))))]) (.var 1)))]⟩
/-- slots: 0 _law_source_here 1 _law_most 2 _law_found 3 _law_k 4 _law_pick 5 _law_name -/
def f__law_tokens_drawn_b1 : List S := [(.asg (.nm 4) (.call "_law_draw" [(.var 0), (.lit (.int (3)))])),
(.iff (.and (.cmp .eq (.var 4) (.lit (.int (0)))) (.or (.cmp .eq (.var 2) (.lst [])) (.cmp .ne (.idx (.idx (.var 2) (.neg (.lit (.int (1))))) (.lit (.int (0)))) (.lit (.str [116, 101, 120, 116]))))) [(.app (.var 2) (.tup [(.lit (.str [116, 101, 120, 116])), (.idx (.lst [(.lit (.str [97])), (.lit (.str [98, 99])), (.lit (.str [32])), (.lit (.str [120, 39, 121]))]) (.call "_law_draw" [(.var 0), (.lit (.int (4)))]))]))] [(.asg (.nm 5) (.idx (.lst [(.lit (.str [112])), (.lit (.str [105, 116, 101, 109])), (.lit (.str [113]))]) (.call "_law_draw" [(.var 0), (.lit (.int (3)))]))),
(.app (.var 2) (.tup [(.idx (.lst [(.lit (.str [115, 116, 97, 114, 116])), (.lit (.str [101, 110, 100]))]) (.call "_law_draw" [(.var 0), (.lit (.int (2)))])), (.var 5)]))])]
def f__law_tokens_drawn : Fn := ⟨["_law_source_here", "_law_most"], 6, true, [(.own 2 (.lst [])),
(.for (.nm 3) (.rng1 (.call "_law_draw" [(.var 0), (.bin .add (.var 1) (.lit (.int (1))))])) f__law_tokens_drawn_b1),
(.ret true (.var 2))]⟩
/-- slots: 0 _law_one 1 _law_two -/
def f__law_both : Fn := ⟨["_law_one", "_law_two"], 2, true, [(.iff (.and (.cmp .ne (.var 0) (.lst [])) (.and (.cmp .ne (.var 1) (.lst [])) (.and (.cmp .eq (.idx (.idx (.var 0) (.neg (.lit (.int (1))))) (.lit (.int (0)))) (.lit (.str [116, 101, 120, 116]))) (.cmp .eq (.idx (.idx (.var 1) (.lit (.int (0)))) (.lit (.int (0)))) (.lit (.str [116, 101, 120, 116])))))) [(.ret false (.bin .add (.bin .add (.slc (.var 0) .omit (.neg (.lit (.int (1))))) (.lst [(.tup [(.lit (.str [116, 101, 120, 116])), (.bin .add (.idx (.idx (.var 0) (.neg (.lit (.int (1))))) (.lit (.int (1)))) (.idx (.idx (.var 1) (.lit (.int (0)))) (.lit (.int (1)))))])])) (.slc (.var 1) (.lit (.int (1))) .omit)))] []),
(.ret false (.bin .add (.var 0) (.var 1)))]⟩
/-- slots: 0 _law_script 1 _law_k 2 _law_source_here 3 _law_turn 4 _law_one 5 _law_two 6 _law_front 7 _law_whole 8 _law_pieces 9 _law_tokens 10 _law_at 11 _law_j 12 _law_begin 13 _law_end -/
def f_law_b1 : List S := [(.asg (.tp [(.nm 12), (.nm 13)]) (.idx (.var 8) (.var 11))),
(.iff (.or (.cmp .ne (.var 12) (.var 10)) (.cmp .ne (.slc (.var 7) (.var 12) (.var 13)) (.call "text_of" [(.lst [(.idx (.var 9) (.var 11))])]))) [(.ret true (.lit (.bl false)))] []),
(.asg (.nm 10) (.var 13))]
def f_law_b2 : List S := [(.asg (.nm 4) (.call "_law_tokens_drawn" [(.var 2), (.lit (.int (40)))])),
(.asg (.nm 5) (.call "_law_tokens_drawn" [(.var 2), (.lit (.int (20)))])),
(.asg (.nm 6) (.call "text_of" [(.var 4)])),
(.asg (.nm 7) (.bin .add (.var 6) (.call "text_of" [(.var 5)]))),
(.iff (.or (.cmp .ne (.call "text_of" [(.bin .add (.var 4) (.var 5))]) (.var 7)) (.cmp .ne (.call "tokens_of" [(.var 7)]) (.call "_law_both" [(.var 4), (.var 5)]))) [(.ret true (.lit (.bl false)))] []),
(.asg (.nm 8) (.call "places_of" [(.var 7)])),
(.asg (.nm 9) (.call "tokens_of" [(.var 7)])),
(.iff (.cmp .ne (.blt .len [(.var 8)]) (.blt .len [(.var 9)])) [(.ret true (.lit (.bl false)))] []),
(.asg (.nm 10) (.lit (.int (0)))),
(.for (.nm 11) (.rng1 (.blt .len [(.var 8)])) f_law_b1),
(.iff (.or (.cmp .ne (.var 10) (.blt .len [(.var 7)])) (.cmp .ne (.call "tokens_of" [(.var 6)]) (.var 4))) [(.ret true (.lit (.bl false)))] [])]
def f_law_b3 : List S := [(.thaw 2 (.call "_law_source" [(.call "_law_cell_at" [(.var 0), (.var 1)]), (.var 1)])),
(.for (.nm 3) (.rng1 (.lit (.int (3)))) f_law_b2)]
def f_law : Fn := ⟨["_law_script"], 14, true, [(.for (.nm 1) (.rng1 (.blt .max2 [(.lit (.int (1))), (.blt .min2 [(.lit (.int (6))), (.blt .len [(.var 0)])])])) f_law_b3),
(.ret true (.lit (.bl true)))]⟩
def tab : List (String × Fn) := [("is_name", f_is_name), ("is_signs", f_is_signs), ("is_token", f_is_token), ("tag_in", f_tag_in), ("pieces_in", f_pieces_in), ("checked_pieces", f_checked_pieces), ("check_tokens", f_check_tokens), ("written_token", f_written_token), ("written", f_written), ("tokens_of", f_tokens_of), ("text_of", f_text_of), ("places_of", f_places_of), ("_law_cell_at", f__law_cell_at), ("_law_source", f__law_source), ("_law_draw", f__law_draw), ("_law_tokens_drawn", f__law_tokens_drawn), ("_law_both", f__law_both), ("law", f_law)]
def glt : List (String × D) := [("START", (.str [115, 116, 97, 114, 116])), ("END", (.str [101, 110, 100])), ("TEXT", (.str [116, 101, 120, 116])), ("LETTERS", (.str [97, 98, 99, 100, 101, 102, 103, 104, 105, 106, 107, 108, 109, 110, 111, 112, 113, 114, 115, 116, 117, 118, 119, 120, 121, 122])), ("LONGEST", (.int (12)))]
def subT (a b : String) : Bool := [("MarkupError", "MarkupError"), ("InvalidTokens", "InvalidTokens"), ("InvalidTokens", "MarkupError"), ("InvalidText", "InvalidText"), ("InvalidText", "MarkupError")].contains (a, b)
def G : Tab := ⟨fun f => tab.lookup f, subT, fun x => glt.lookup x⟩
theorem G_is_name : G.fn "is_name" = some f_is_name := rfl
theorem G_is_signs : G.fn "is_signs" = some f_is_signs := rfl
theorem G_is_token : G.fn "is_token" = some f_is_token := rfl
theorem G_tag_in : G.fn "tag_in" = some f_tag_in := rfl
theorem G_pieces_in : G.fn "pieces_in" = some f_pieces_in := rfl
theorem G_checked_pieces : G.fn "checked_pieces" = some f_checked_pieces := rfl
theorem G_check_tokens : G.fn "check_tokens" = some f_check_tokens := rfl
theorem G_written_token : G.fn "written_token" = some f_written_token := rfl
theorem G_written : G.fn "written" = some f_written := rfl
theorem G_tokens_of : G.fn "tokens_of" = some f_tokens_of := rfl
theorem G_text_of : G.fn "text_of" = some f_text_of := rfl
theorem G_places_of : G.fn "places_of" = some f_places_of := rfl
theorem G__law_cell_at : G.fn "_law_cell_at" = some f__law_cell_at := rfl
theorem G__law_source : G.fn "_law_source" = some f__law_source := rfl
theorem G__law_draw : G.fn "_law_draw" = some f__law_draw := rfl
theorem G__law_tokens_drawn : G.fn "_law_tokens_drawn" = some f__law_tokens_drawn := rfl
theorem G__law_both : G.fn "_law_both" = some f__law_both := rfl
theorem G_law : G.fn "law" = some f_law := rfl
end Lt

set_option linter.all false
set_option maxRecDepth 100000
/-! Lp1: plain lemmas about the evaluation of Lt. -/
namespace Lt
def fin : RS → R D
  | .ok (.ret x) _ m => .ok x m
  | .ok .nx _ m => .ok .non m
  | .exc x _ m => .exc x m
  | _ => .stuck
@[simp] theorem fin_ret {x : D} {sl : Sl} {m : Mem} : fin (.ok (.ret x) sl m) = .ok x m := rfl
@[simp] theorem fin_nx {sl : Sl} {m : Mem} : fin (.ok .nx sl m) = .ok .non m := rfl
theorem call_eq {G : Tab} {wf n : Nat} {f : String} {d : Fn} {ds : List D} {m : Mem} (h : G.fn f = some d) (hl : ds.length = d.ps.length) :
    call G wf (n + 1) f ds m = fin (exs (cvOf G wf n) d.body (ds.map .val ++ List.replicate (d.n - d.ps.length) .no) m) := by
  rw [call, h]
  simp only [hl, if_true]
  generalize exs _ _ _ _ = r
  cases r with
  | ok f sl m => cases f <;> rfl
  | exc x sl m => rfl
  | stuck => rfl
/-- a comprehension without a condition whose element keeps the memory -/
theorem lcGo_map {f : D → Mem → R (Option D)} {g : D → D} {m : Mem} : ∀ {xs : List D}, (∀ x ∈ xs, f x m = .ok (some (g x)) m) → lcGo f xs m = .ok (xs.map g) m
  | [], _ => rfl
  | x :: xs, h => by
    have ih : lcGo f xs m = .ok (xs.map g) m := lcGo_map fun y hy => h y (List.mem_cons_of_mem _ hy)
    simp only [lcGo, h x List.mem_cons_self, R.bind, ih, List.map_cons]
theorem blsOf_map {α : Type} {f : α → Bool} : ∀ {l : List α}, blsOf (l.map fun x => .bl (f x)) = some (l.map f)
  | [] => rfl
  | x :: l => by simp [blsOf, blsOf_map]
theorem strsOf_map {α : Type} {f : α → List Nat} : ∀ {l : List α}, strsOf (l.map fun x => .str (f x)) = some (l.map f)
  | [] => rfl
  | x :: l => by simp [strsOf, strsOf_map]
/-- a loop by an invariant -/
theorem forGo_inv {t : T} {body : Sl → Mem → RS} {xs : List D} (I : Nat → Sl → Mem → Prop) (h : ∀ i x sl m, xs[i]? = some x → I i sl m → ∃ sl' sl2 m2, tgt t x sl = some sl' ∧ (body sl' m = .ok .nx sl2 m2 ∨ body sl' m = .ok .cnt sl2 m2) ∧ I (i + 1) sl2 m2) :
    ∀ {sl m}, I 0 sl m → ∃ sl' m', forGo t body xs sl m = .ok .nx sl' m' ∧ I xs.length sl' m' := by
  have key : ∀ (ys : List D) (i : Nat) sl m, xs.drop i = ys → i ≤ xs.length → I i sl m → ∃ sl' m', forGo t body ys sl m = .ok .nx sl' m' ∧ I xs.length sl' m' := by
    intro ys
    induction ys with
    | nil =>
      intro i sl m e hi q
      have hl : i = xs.length := by
        have := congrArg List.length e
        simp at this
        omega
      subst hl
      exact ⟨sl, m, rfl, q⟩
    | cons y ys ih =>
      intro i sl m e hi q
      have hy : xs[i]? = some y := by
        have := congrArg (fun l => l[0]?) e
        simpa using this
      have hlt : i < xs.length := (List.getElem?_eq_some_iff.mp hy).1
      obtain ⟨sl', sl2, m2, h1, h2, h3⟩ := h i y sl m hy q
      have e' : xs.drop (i + 1) = ys := by
        have := congrArg (List.drop 1) e
        simpa [Nat.add_comm] using this
      obtain ⟨sl3, m3, h4, h5⟩ := ih (i + 1) sl2 m2 e' hlt h3
      refine ⟨sl3, m3, ?_, h5⟩
      simp only [forGo, h1]
      rcases h2 with h2 | h2 <;> (rw [h2]; exact h4)
  intro sl m q
  exact key xs 0 sl m (by simp) (Nat.zero_le _) q
theorem rangeD_get {a b : Int} {i : Nat} {x : D} (h : (rangeD a b)[i]? = some x) : x = .int (a + i) ∧ (i : Int) < b - a := by
  unfold rangeD at h
  rw [List.getElem?_map] at h
  cases e : (List.range (b - a).toNat)[i]? with
  | none => rw [e] at h; cases h
  | some j =>
    rw [e] at h
    have hl := (List.getElem?_eq_some_iff.mp e).1
    rw [List.length_range] at hl
    rw [List.getElem?_range hl] at e
    cases e
    cases h
    exact ⟨rfl, by omega⟩
theorem rangeD_len {a b : Int} : (rangeD a b).length = (b - a).toNat := by simp [rangeD]
/-! ### stepping -/
theorem b_ok {α β : Type} {a : α} {m : Mem} {f : α → Mem → R β} : (R.ok a m).bind f = f a m := rfl
theorem b_st {α : Type} {a : α} {m : Mem} {sl : Sl} {f : α → Mem → RS} : (R.ok a m).st sl f = f a m := rfl
theorem b_nx {sl : Sl} {m : Mem} {f : Sl → Mem → RS} : (RS.ok .nx sl m).andThen f = f sl m := rfl
theorem b_rt {d : D} {sl : Sl} {m : Mem} {f : Sl → Mem → RS} : (RS.ok (.ret d) sl m).andThen f = .ok (.ret d) sl m := rfl
theorem b_brk {sl : Sl} {m : Mem} {f : Sl → Mem → RS} : (RS.ok .brk sl m).andThen f = .ok .brk sl m := rfl
theorem b_cnt {sl : Sl} {m : Mem} {f : Sl → Mem → RS} : (RS.ok .cnt sl m).andThen f = .ok .cnt sl m := rfl
theorem b_calm {α : Type} {a : α} {m : Mem} : (R.ok a m).calm = .ok a m := rfl
theorem b_of {α : Type} {a : α} {m : Mem} : R.of (some a) m = .ok a m := rfl
theorem d_non {m : Mem} : deref m .non = .non := rfl
theorem d_bl {m : Mem} {b : Bool} : deref m (.bl b) = .bl b := rfl
theorem d_int {m : Mem} {b : Int} : deref m (.int b) = .int b := rfl
theorem d_str {m : Mem} {b : List Nat} : deref m (.str b) = .str b := rfl
theorem d_tup {m : Mem} {b : List D} : deref m (.tup b) = .tup b := rfl
theorem d_lst {m : Mem} {b : List D} : deref m (.lst b) = .lst b := rfl
theorem d_fro {m : Mem} {b : List D} : deref m (.fro b) = .fro b := rfl
theorem t_str {a : List Nat} : isTy (.str a) .str = true := rfl
theorem t_tup {a : List D} : isTy (.tup a) .tuple = true := rfl
theorem t_lst {a : List D} : isTy (.lst a) .list = true := rfl
theorem t_int {a : Int} : isTy (.int a) .int = true := rfl
theorem t_intb {a : Int} : isTy (.int a) .bool = false := rfl
theorem t_blb {a : Bool} : isTy (.bl a) .bool = true := rfl
theorem t_strt {a : List Nat} : isTy (.str a) .tuple = false := rfl
theorem t_strl {a : List Nat} : isTy (.str a) .list = false := rfl
theorem t_tups {a : List D} : isTy (.tup a) .str = false := rfl
theorem t_tupl {a : List D} : isTy (.tup a) .list = false := rfl
theorem t_lstt {a : List D} : isTy (.lst a) .tuple = false := rfl
theorem t_lsts {a : List D} : isTy (.lst a) .str = false := rfl
theorem q_eqs {a b : List Nat} : cmpD .eq (.str a) (.str b) = some (a == b) := by simp [cmpD, eqOk, dep, eqD]
theorem q_nes {a b : List Nat} : cmpD .ne (.str a) (.str b) = some (!(a == b)) := by simp [cmpD, eqOk, dep, eqD]
theorem q_eqi {a b : Int} : cmpD .eq (.int a) (.int b) = some (a == b) := by simp [cmpD, eqOk, dep, eqD]
theorem q_nei {a b : Int} : cmpD .ne (.int a) (.int b) = some (!(a == b)) := by simp [cmpD, eqOk, dep, eqD]
theorem q_lt {a b : Int} : cmpD .lt (.int a) (.int b) = some (decide (a < b)) := rfl
theorem q_le {a b : Int} : cmpD .le (.int a) (.int b) = some (decide (a ≤ b)) := rfl
theorem q_gt {a b : Int} : cmpD .gt (.int a) (.int b) = some (decide (b < a)) := rfl
theorem q_ge {a b : Int} : cmpD .ge (.int a) (.int b) = some (decide (b ≤ a)) := rfl
theorem q_les {a b : List Nat} : cmpD .le (.str a) (.str b) = some (decide (a ≤ b)) := rfl
theorem q_lts {a b : List Nat} : cmpD .lt (.str a) (.str b) = some (decide (a < b)) := rfl
theorem q_in {a b : D} : cmpD .isin a b = inD a b := by cases a <;> cases b <;> rfl
theorem q_nin {a b : D} : cmpD .notin a b = (inD a b).map (!·) := by cases a <;> cases b <;> rfl
theorem q_isn : cmpD .is .non .non = some true := rfl
theorem q_ist {a : List D} : cmpD .is (.tup a) .non = some false := rfl
theorem q_isl {a : List D} : cmpD .is (.lst a) .non = some false := rfl
theorem q_iss {a : List Nat} : cmpD .is (.str a) .non = some false := rfl
theorem q_isi {a : Int} : cmpD .is (.int a) .non = some false := rfl
theorem q_sn : cmpD .isnot .non .non = some false := rfl
theorem q_st {a : List D} : cmpD .isnot (.tup a) .non = some true := rfl
theorem q_sl {a : List D} : cmpD .isnot (.lst a) .non = some true := rfl
theorem q_ss {a : List Nat} : cmpD .isnot (.str a) .non = some true := rfl
theorem q_si {a : Int} : cmpD .isnot (.int a) .non = some true := rfl
theorem f_lens {a : List Nat} : bltD .len [.str a] = some (.int a.length) := rfl
theorem f_lenl {a : List D} : bltD .len [.lst a] = some (.int a.length) := rfl
theorem f_lent {a : List D} : bltD .len [.tup a] = some (.int a.length) := rfl
theorem f_lenf {a : List D} : bltD .len [.fro a] = some (.int a.length) := rfl
theorem f_all {a : List D} : bltD .all [.lst a] = (blsOf a).map fun l => .bl (l.all id) := rfl
theorem f_any {a : List D} : bltD .any [.lst a] = (blsOf a).map fun l => .bl (l.any id) := rfl
theorem f_int {a : Int} : bltD .int [.int a] = some (.int a) := rfl
theorem f_max {a b : Int} : bltD .max2 [.int a, .int b] = some (.int (if b > a then b else a)) := rfl
theorem f_min {a b : Int} : bltD .min2 [.int a, .int b] = some (.int (if b < a then b else a)) := rfl
theorem f_lstl {a : List D} : bltD .list [.lst a] = some (.lst a) := rfl
theorem f_lstt {a : List D} : bltD .list [.tup a] = some (.lst a) := rfl
theorem f_tupl {a : List D} : bltD .tuple [.lst a] = some (.tup a) := rfl
theorem f_tupt {a : List D} : bltD .tuple [.tup a] = some (.tup a) := rfl
theorem o_add {a b : Int} : binD .add (.int a) (.int b) = some (.int (a + b)) := rfl
theorem o_sub {a b : Int} : binD .sub (.int a) (.int b) = some (.int (a - b)) := rfl
theorem o_adds {a b : List Nat} : binD .add (.str a) (.str b) = if a.length + b.length ≤ LIM then some (.str (a ++ b)) else none := rfl
theorem o_addl {a b : List D} : binD .add (.lst a) (.lst b) = if a.length + b.length ≤ LIM then some (.lst (a ++ b)) else none := rfl
theorem o_addt {a b : List D} : binD .add (.tup a) (.tup b) = if a.length + b.length ≤ LIM then some (.tup (a ++ b)) else none := rfl
theorem x_l {a : List D} {i : Int} : idxD (.lst a) (.int i) = atD a i := rfl
theorem x_t {a : List D} {i : Int} : idxD (.tup a) (.int i) = atD a i := rfl
theorem x_f {a : List D} {i : Int} : idxD (.fro a) (.int i) = atD a i := rfl
theorem x_s {a : List Nat} {i : Int} : idxD (.str a) (.int i) = (pyIx a.length i).bind fun j => (a[j]?).map fun c => .str [c] := rfl
theorem z_l {a : List D} {i j : Option Int} : slcD (.lst a) i j = some (.lst (cut a i j)) := rfl
theorem z_t {a : List D} {i j : Option Int} : slcD (.tup a) i j = some (.tup (cut a i j)) := rfl
theorem z_s {a : List Nat} {i j : Option Int} : slcD (.str a) i j = some (.str (cut a i j)) := rfl
theorem i_l {a : List D} : itemsD (.lst a) = some a := rfl
theorem i_t {a : List D} : itemsD (.tup a) = some a := rfl
theorem i_f {a : List D} : itemsD (.fro a) = some a := rfl
theorem i_i {a : List D} : itemsD (.itr a) = some a := rfl
theorem i_s {a : List Nat} : itemsD (.str a) = some (a.map fun c => .str [c]) := rfl
theorem n_ss {a b : List Nat} : inD (.str a) (.str b) = if a.isEmpty then none else some (isSub a b) := rfl
theorem n_l {a : D} {b : List D} : inD a (.lst b) = inL a b := by cases a <;> rfl
theorem n_t {a : D} {b : List D} : inD a (.tup b) = inL a b := by cases a <;> rfl
theorem m_f1 {a : List Nat} : mthT .find1 (.str a) = true := rfl
theorem m_f2 {a : List Nat} : mthT .find2 (.str a) = true := rfl
theorem m_j {a : List Nat} : mthT .join (.str a) = true := rfl
theorem lcGo_mapf {α : Type} {f : D → Mem → R (Option D)} {h g : α → D} {m : Mem} : ∀ {xs : List α}, (∀ x ∈ xs, f (h x) m = .ok (some (g x)) m) → lcGo f (xs.map h) m = .ok (xs.map g) m
  | [], _ => rfl
  | x :: xs, q => by
    have ih : lcGo f (xs.map h) m = .ok (xs.map g) m := lcGo_mapf fun y hy => q y (List.mem_cons_of_mem _ hy)
    simp only [List.map_cons, lcGo, q x List.mem_cons_self, R.bind, ih]
theorem all_map {α : Type} {f : α → Bool} {l : List α} : (l.map f).all id = l.all f := by
  induction l with
  | nil => rfl
  | cons x l ih => simp [ih]
theorem cut_none {α : Type} {s : List α} {k : Nat} : cut s none (some (k : Int)) = s.take k := by
  unfold cut sIx
  have h : ¬ ((k : Int) < 0) := by omega
  simp only [h, if_false, List.drop_zero, Int.toNat_natCast, Nat.sub_zero]
  rw [← List.take_take] <;> simp [List.take_length]
theorem cut_from {α : Type} {s : List α} {k : Nat} : cut s (some (k : Int)) none = s.drop k := by
  unfold cut sIx
  have h : ¬ ((k : Int) < 0) := by omega
  simp only [h, if_false, Int.toNat_natCast]
  by_cases hk : k ≤ s.length
  · rw [Nat.min_eq_left hk]
    exact List.take_of_length_le (by simp)
  · rw [Nat.min_eq_right (by omega), Nat.sub_self]
    simp
    omega
theorem cut_mid {α : Type} {s : List α} {i j : Nat} (hi : i ≤ s.length) (hj : j ≤ s.length) : cut s (some (i : Int)) (some (j : Int)) = (s.drop i).take (j - i) := by
  unfold cut sIx
  have h : ¬ ((i : Int) < 0) := by omega
  have h' : ¬ ((j : Int) < 0) := by omega
  simp only [h, h', if_false, Int.toNat_natCast, Nat.min_eq_left hi, Nat.min_eq_left hj]
theorem pyIx_nat {n i : Nat} (h : i < n) : pyIx n (i : Int) = some i := by
  unfold pyIx
  rw [if_pos (by omega), if_pos (by omega)]
  simp
theorem atD_nat {xs : List D} {i : Nat} {d : D} (h : xs[i]? = some d) : atD xs (i : Int) = some d := by
  unfold atD
  rw [pyIx_nat (List.getElem?_eq_some_iff.mp h).1]
  exact h
theorem a2_0 {a b : D} : atD [a, b] 0 = some a := rfl
theorem a2_1 {a b : D} : atD [a, b] 1 = some b := rfl
theorem a3_0 {a b c : D} : atD [a, b, c] 0 = some a := rfl
theorem a3_1 {a b c : D} : atD [a, b, c] 1 = some b := rfl
theorem a3_2 {a b c : D} : atD [a, b, c] 2 = some c := rfl
theorem inL2 {a b c : List Nat} : inL (.str a) [.str b, .str c] = some (b == a || c == a) := by simp [inL, flatD, eqD]
theorem k_0 : ((0 : Nat) : Int) = 0 := rfl
theorem k_1 : ((1 : Nat) : Int) = 1 := rfl
theorem k_2 : ((2 : Nat) : Int) = 2 := rfl
theorem k_3 : ((3 : Nat) : Int) = 3 := rfl
theorem g_nm {i : Nat} {d : D} {sl : Sl} : tgt (.nm i) d sl = some (setS sl i (.val d)) := by rw [tgt]
theorem g_tp {ts : List T} {xs : List D} {sl : Sl} : tgt (.tp ts) (.tup xs) sl = tgts ts xs sl := by rw [tgt]
theorem g_nil {sl : Sl} : tgts [] [] sl = some sl := by rw [tgts]
theorem g_cons {t : T} {ts : List T} {d : D} {ds : List D} {sl : Sl} : tgts (t :: ts) (d :: ds) sl = (tgt t d sl).bind (tgts ts ds) := by rw [tgts]
theorem o_app {xs : List D} {d : D} : appD (.lst xs) d = if xs.length < LIM then some (.lst (xs ++ [d])) else none := rfl
theorem ex_step {v : Cv} {s : S} {r : List S} {sl : Sl} {m : Mem} (sl' : Sl) (m' : Mem) (h : ex v s sl m = .ok .nx sl' m') : exs v (s :: r) sl m = exs v r sl' m' := by rw [exs, h]; rfl
theorem ex_ret {v : Cv} {s : S} {r : List S} {sl : Sl} {m : Mem} (d : D) (sl' : Sl) (m' : Mem) (h : ex v s sl m = .ok (.ret d) sl' m') : exs v (s :: r) sl m = .ok (.ret d) sl' m' := by rw [exs, h]; rfl
theorem ex_nil {v : Cv} {sl : Sl} {m : Mem} : exs v [] sl m = .ok .nx sl m := by rw [exs]
theorem ev_bin {v : Cv} {op : Bop} {a b : E} {sl : Sl} {m m1 m2 : Mem} {x y z : D} (ha : rdV sl a m (ev v a sl m) = .ok x m1) (hb : rdV sl b m1 (ev v b sl m1) = .ok y m2) (h : binD op (deref m2 x) (deref m2 y) = some z) : ev v (.bin op a b) sl m = .ok z m2 := by
  rw [ev, ha]
  show (rdV sl b m1 (ev v b sl m1)).bind _ = _
  rw [hb]
  show R.of (binD op (deref m2 x) (deref m2 y)) m2 = _
  rw [h]
  rfl
theorem ev_blt1 {v : Cv} {f : Blt} {a : E} {sl : Sl} {m m1 : Mem} {x z : D} (ha : rdV sl a m (ev v a sl m) = .ok x m1) (h : bltD f [deref m1 x] = some z) : ev v (.blt f [a]) sl m = .ok z m1 := by
  have e : evr v [a] sl m = .ok [x] m1 := by
    simp only [evr, ha, b_ok]
  rw [ev, e]
  show R.of (bltD f [deref m1 x]) m1 = _
  rw [h]
  rfl
theorem ex_asg {v : Cv} {i : Nat} {e : E} {sl : Sl} {m m1 : Mem} {d : D} (h : ev v e sl m = .ok d m1) : ex v (.asg (.nm i) e) sl m = .ok .nx (setS sl i (.val d)) m1 := by
  rw [ex, h]
  show (match tgt (.nm i) d sl with
    | some sl' => RS.ok .nx sl' m1
    | none => .stuck) = _
  rw [g_nm]
theorem ex_for {v : Cv} {t : T} {it : E} {b : List S} {sl : Sl} {m m1 : Mem} {d : D} {xs : List D} {r : RS} (h : ev v it sl m = .ok d m1) (hi : itemsD d = some xs) (hf : forGo t (exs v b) xs sl m1 = r) : ex v (.for t it b) sl m = r := by
  rw [ex, h]
  show (match itemsD d with
    | some xs => forGo t (exs v b) xs sl m1
    | none => .stuck) = r
  rw [hi]
  exact hf
theorem sm_ok {k : Int} (h0 : 0 ≤ k) (h : k ≤ 1000000) : (small62 k && decide (k ≤ (LIM : Nat))) = true := by
  have e : (2 : Int) ^ 62 = 4611686018427387904 := by decide
  simp only [small62, Bool.and_eq_true, decide_eq_true_eq, e]
  unfold LIM
  omega
theorem ev_rng1 {v : Cv} {a : E} {sl : Sl} {m m1 : Mem} {k : Int} (h : ev v a sl m = .ok (.int k) m1) (h0 : 0 ≤ k) (hk : k ≤ 1000000) : ev v (.rng1 a) sl m = .ok (.itr (rangeD 0 k)) m1 := by
  have hs := sm_ok h0 hk
  rw [ev, h]
  simp only [R.bind]
  rw [if_pos hs]
end Lt

set_option linter.all false
set_option maxRecDepth 100000
set_option maxHeartbeats 1000000
namespace Lt
variable {wf n : Nat} {m : Mem}
def LETTERS : List Nat := [97, 98, 99, 100, 101, 102, 103, 104, 105, 106, 107, 108, 109, 110, 111, 112, 113, 114, 115, 116, 117, 118, 119, 120, 121, 122]
abbrev TEXT : List Nat := [116, 101, 120, 116]
abbrev START : List Nat := [115, 116, 97, 114, 116]
abbrev END : List Nat := [101, 110, 100]
def isName (s : List Nat) : Bool := !s.isEmpty && decide (s.length ≤ 12) && s.all fun c => isSub [c] LETTERS
theorem eqNil {s : List Nat} : (s == []) = s.isEmpty := by cases s <;> rfl
theorem c_is_name {s : List Nat} : call G wf (n + 1) "is_name" [.str s] m = .ok (.bl (isName s)) m := by
  rw [call_eq G_is_name rfl]
  cases h1 : s.isEmpty with
  | true => simp only [f_is_name, exs, ex, ev, evs, evr, rdV, getS, setS, b_ok, b_st, b_nx, b_rt, b_brk, b_cnt, b_calm, b_of, fin_ret, fin_nx, optV, clr, clrs, g_nm, g_tp, g_nil, g_cons, List.map_cons, List.map_nil, List.replicate, List.cons_append, List.nil_append, List.length_cons, List.length_nil, isObj, isLst, ownV, retS, List.any_cons, List.any_nil, Bool.or_false, Bool.false_eq_true, if_false, if_true, Option.map_some, Option.bind_some, cvOf, chg, Bool.not_true, Bool.not_false, decide_true, decide_false, reduceCtorEq, Bool.true_and, Bool.false_and, Bool.true_or, Bool.false_or, d_non, d_bl, d_int, d_str, d_tup, d_lst, d_fro, t_str, t_tup, t_lst, t_int, t_intb, t_blb, t_strt, t_strl, t_tups, t_tupl, t_lstt, t_lsts, q_eqs, q_nes, q_eqi, q_nei, q_lt, q_le, q_gt, q_ge, q_les, q_lts, q_in, q_nin, q_isn, q_ist, q_isl, q_iss, q_isi, q_sn, q_st, q_sl, q_ss, q_si, f_lens, f_lenl, f_lent, f_lenf, f_all, f_any, f_int, f_max, f_min, f_lstl, f_lstt, f_tupl, f_tupt, o_add, o_sub, o_adds, o_addl, o_addt, x_l, x_t, x_f, x_s, z_l, z_t, z_s, i_l, i_t, i_f, i_i, i_s, n_ss, n_l, n_t, m_f1, m_f2, m_j, a2_0, a2_1, a3_0, a3_1, a3_2, inL2, beq_self_eq_true, k_0, k_1, k_2, k_3, Nat.reduceAdd, Nat.reduceSub, Int.reduceBEq, Int.reduceLT, Int.reduceLE, Int.reduceAdd, Int.reduceSub, Int.reduceNeg, eqNil, h1, Bool.not_true, isName, Bool.false_and]
  | false =>
    by_cases h2 : (12 : Int) < s.length
    · have h3 : ¬ s.length ≤ 12 := by omega
      simp only [f_is_name, exs, ex, ev, evs, evr, rdV, getS, setS, b_ok, b_st, b_nx, b_rt, b_brk, b_cnt, b_calm, b_of, fin_ret, fin_nx, optV, clr, clrs, g_nm, g_tp, g_nil, g_cons, List.map_cons, List.map_nil, List.replicate, List.cons_append, List.nil_append, List.length_cons, List.length_nil, isObj, isLst, ownV, retS, List.any_cons, List.any_nil, Bool.or_false, Bool.false_eq_true, if_false, if_true, Option.map_some, Option.bind_some, cvOf, chg, Bool.not_true, Bool.not_false, decide_true, decide_false, reduceCtorEq, Bool.true_and, Bool.false_and, Bool.true_or, Bool.false_or, d_non, d_bl, d_int, d_str, d_tup, d_lst, d_fro, t_str, t_tup, t_lst, t_int, t_intb, t_blb, t_strt, t_strl, t_tups, t_tupl, t_lstt, t_lsts, q_eqs, q_nes, q_eqi, q_nei, q_lt, q_le, q_gt, q_ge, q_les, q_lts, q_in, q_nin, q_isn, q_ist, q_isl, q_iss, q_isi, q_sn, q_st, q_sl, q_ss, q_si, f_lens, f_lenl, f_lent, f_lenf, f_all, f_any, f_int, f_max, f_min, f_lstl, f_lstt, f_tupl, f_tupt, o_add, o_sub, o_adds, o_addl, o_addt, x_l, x_t, x_f, x_s, z_l, z_t, z_s, i_l, i_t, i_f, i_i, i_s, n_ss, n_l, n_t, m_f1, m_f2, m_j, a2_0, a2_1, a3_0, a3_1, a3_2, inL2, beq_self_eq_true, k_0, k_1, k_2, k_3, Nat.reduceAdd, Nat.reduceSub, Int.reduceBEq, Int.reduceLT, Int.reduceLE, Int.reduceAdd, Int.reduceSub, Int.reduceNeg, eqNil, h1, h2, h3, isName]
    · have h3 : s.length ≤ 12 := by omega
      simp only [f_is_name, exs, ex, ev, evs, evr, rdV, getS, setS, b_ok, b_st, b_nx, b_rt, b_brk, b_cnt, b_calm, b_of, fin_ret, fin_nx, optV, clr, clrs, g_nm, g_tp, g_nil, g_cons, List.map_cons, List.map_nil, List.replicate, List.cons_append, List.nil_append, List.length_cons, List.length_nil, isObj, isLst, ownV, retS, List.any_cons, List.any_nil, Bool.or_false, Bool.false_eq_true, if_false, if_true, Option.map_some, Option.bind_some, cvOf, chg, Bool.not_true, Bool.not_false, decide_true, decide_false, reduceCtorEq, Bool.true_and, Bool.false_and, Bool.true_or, Bool.false_or, d_non, d_bl, d_int, d_str, d_tup, d_lst, d_fro, t_str, t_tup, t_lst, t_int, t_intb, t_blb, t_strt, t_strl, t_tups, t_tupl, t_lstt, t_lsts, q_eqs, q_nes, q_eqi, q_nei, q_lt, q_le, q_gt, q_ge, q_les, q_lts, q_in, q_nin, q_isn, q_ist, q_isl, q_iss, q_isi, q_sn, q_st, q_sl, q_ss, q_si, f_lens, f_lenl, f_lent, f_lenf, f_all, f_any, f_int, f_max, f_min, f_lstl, f_lstt, f_tupl, f_tupt, o_add, o_sub, o_adds, o_addl, o_addt, x_l, x_t, x_f, x_s, z_l, z_t, z_s, i_l, i_t, i_f, i_i, i_s, n_ss, n_l, n_t, m_f1, m_f2, m_j, a2_0, a2_1, a3_0, a3_1, a3_2, inL2, beq_self_eq_true, k_0, k_1, k_2, k_3, Nat.reduceAdd, Nat.reduceSub, Int.reduceBEq, Int.reduceLT, Int.reduceLE, Int.reduceAdd, Int.reduceSub, Int.reduceNeg, eqNil, h1, h2, h3, isName]
      rw [lcGo_mapf (g := fun c => .bl (isSub [c] LETTERS)) (fun c _ => by simp only [exs, ex, ev, evs, evr, rdV, getS, setS, b_ok, b_st, b_nx, b_rt, b_brk, b_cnt, b_calm, b_of, fin_ret, fin_nx, optV, clr, clrs, g_nm, g_tp, g_nil, g_cons, List.map_cons, List.map_nil, List.replicate, List.cons_append, List.nil_append, List.length_cons, List.length_nil, isObj, isLst, ownV, retS, List.any_cons, List.any_nil, Bool.or_false, Bool.false_eq_true, if_false, if_true, Option.map_some, Option.bind_some, cvOf, chg, Bool.not_true, Bool.not_false, decide_true, decide_false, reduceCtorEq, Bool.true_and, Bool.false_and, Bool.true_or, Bool.false_or, d_non, d_bl, d_int, d_str, d_tup, d_lst, d_fro, t_str, t_tup, t_lst, t_int, t_intb, t_blb, t_strt, t_strl, t_tups, t_tupl, t_lstt, t_lsts, q_eqs, q_nes, q_eqi, q_nei, q_lt, q_le, q_gt, q_ge, q_les, q_lts, q_in, q_nin, q_isn, q_ist, q_isl, q_iss, q_isi, q_sn, q_st, q_sl, q_ss, q_si, f_lens, f_lenl, f_lent, f_lenf, f_all, f_any, f_int, f_max, f_min, f_lstl, f_lstt, f_tupl, f_tupt, o_add, o_sub, o_adds, o_addl, o_addt, x_l, x_t, x_f, x_s, z_l, z_t, z_s, i_l, i_t, i_f, i_i, i_s, n_ss, n_l, n_t, m_f1, m_f2, m_j, a2_0, a2_1, a3_0, a3_1, a3_2, inL2, beq_self_eq_true, k_0, k_1, k_2, k_3, Nat.reduceAdd, Nat.reduceSub, Int.reduceBEq, Int.reduceLT, Int.reduceLE, Int.reduceAdd, Int.reduceSub, Int.reduceNeg, LETTERS, List.isEmpty])]
      simp only [exs, ex, ev, evs, evr, rdV, getS, setS, b_ok, b_st, b_nx, b_rt, b_brk, b_cnt, b_calm, b_of, fin_ret, fin_nx, optV, clr, clrs, g_nm, g_tp, g_nil, g_cons, List.map_cons, List.map_nil, List.replicate, List.cons_append, List.nil_append, List.length_cons, List.length_nil, isObj, isLst, ownV, retS, List.any_cons, List.any_nil, Bool.or_false, Bool.false_eq_true, if_false, if_true, Option.map_some, Option.bind_some, cvOf, chg, Bool.not_true, Bool.not_false, decide_true, decide_false, reduceCtorEq, Bool.true_and, Bool.false_and, Bool.true_or, Bool.false_or, d_non, d_bl, d_int, d_str, d_tup, d_lst, d_fro, t_str, t_tup, t_lst, t_int, t_intb, t_blb, t_strt, t_strl, t_tups, t_tupl, t_lstt, t_lsts, q_eqs, q_nes, q_eqi, q_nei, q_lt, q_le, q_gt, q_ge, q_les, q_lts, q_in, q_nin, q_isn, q_ist, q_isl, q_iss, q_isi, q_sn, q_st, q_sl, q_ss, q_si, f_lens, f_lenl, f_lent, f_lenf, f_all, f_any, f_int, f_max, f_min, f_lstl, f_lstt, f_tupl, f_tupt, o_add, o_sub, o_adds, o_addl, o_addt, x_l, x_t, x_f, x_s, z_l, z_t, z_s, i_l, i_t, i_f, i_i, i_s, n_ss, n_l, n_t, m_f1, m_f2, m_j, a2_0, a2_1, a3_0, a3_1, a3_2, inL2, beq_self_eq_true, k_0, k_1, k_2, k_3, Nat.reduceAdd, Nat.reduceSub, Int.reduceBEq, Int.reduceLT, Int.reduceLE, Int.reduceAdd, Int.reduceSub, Int.reduceNeg, blsOf_map, all_map]
def isSigns (s : List Nat) : Bool := !s.isEmpty && s.all fun c => (decide ([32] ≤ [c]) && decide ([c] ≤ [126])) && !isSub [c] [60, 62]
theorem c_is_signs {s : List Nat} : call G wf (n + 1) "is_signs" [.str s] m = .ok (.bl (isSigns s)) m := by
  rw [call_eq G_is_signs rfl]
  cases h1 : s.isEmpty with
  | true => simp only [f_is_signs, exs, ex, ev, evs, evr, rdV, getS, setS, b_ok, b_st, b_nx, b_rt, b_brk, b_cnt, b_calm, b_of, fin_ret, fin_nx, optV, clr, clrs, g_nm, g_tp, g_nil, g_cons, List.map_cons, List.map_nil, List.replicate, List.cons_append, List.nil_append, List.length_cons, List.length_nil, isObj, isLst, ownV, retS, List.any_cons, List.any_nil, Bool.or_false, Bool.false_eq_true, if_false, if_true, Option.map_some, Option.bind_some, cvOf, chg, Bool.not_true, Bool.not_false, decide_true, decide_false, reduceCtorEq, Bool.true_and, Bool.false_and, Bool.true_or, Bool.false_or, d_non, d_bl, d_int, d_str, d_tup, d_lst, d_fro, t_str, t_tup, t_lst, t_int, t_intb, t_blb, t_strt, t_strl, t_tups, t_tupl, t_lstt, t_lsts, q_eqs, q_nes, q_eqi, q_nei, q_lt, q_le, q_gt, q_ge, q_les, q_lts, q_in, q_nin, q_isn, q_ist, q_isl, q_iss, q_isi, q_sn, q_st, q_sl, q_ss, q_si, f_lens, f_lenl, f_lent, f_lenf, f_all, f_any, f_int, f_max, f_min, f_lstl, f_lstt, f_tupl, f_tupt, o_add, o_sub, o_adds, o_addl, o_addt, x_l, x_t, x_f, x_s, z_l, z_t, z_s, i_l, i_t, i_f, i_i, i_s, n_ss, n_l, n_t, m_f1, m_f2, m_j, a2_0, a2_1, a3_0, a3_1, a3_2, inL2, beq_self_eq_true, k_0, k_1, k_2, k_3, Nat.reduceAdd, Nat.reduceSub, Int.reduceBEq, Int.reduceLT, Int.reduceLE, Int.reduceAdd, Int.reduceSub, Int.reduceNeg, eqNil, h1, isSigns]
  | false =>
    simp only [f_is_signs, exs, ex, ev, evs, evr, rdV, getS, setS, b_ok, b_st, b_nx, b_rt, b_brk, b_cnt, b_calm, b_of, fin_ret, fin_nx, optV, clr, clrs, g_nm, g_tp, g_nil, g_cons, List.map_cons, List.map_nil, List.replicate, List.cons_append, List.nil_append, List.length_cons, List.length_nil, isObj, isLst, ownV, retS, List.any_cons, List.any_nil, Bool.or_false, Bool.false_eq_true, if_false, if_true, Option.map_some, Option.bind_some, cvOf, chg, Bool.not_true, Bool.not_false, decide_true, decide_false, reduceCtorEq, Bool.true_and, Bool.false_and, Bool.true_or, Bool.false_or, d_non, d_bl, d_int, d_str, d_tup, d_lst, d_fro, t_str, t_tup, t_lst, t_int, t_intb, t_blb, t_strt, t_strl, t_tups, t_tupl, t_lstt, t_lsts, q_eqs, q_nes, q_eqi, q_nei, q_lt, q_le, q_gt, q_ge, q_les, q_lts, q_in, q_nin, q_isn, q_ist, q_isl, q_iss, q_isi, q_sn, q_st, q_sl, q_ss, q_si, f_lens, f_lenl, f_lent, f_lenf, f_all, f_any, f_int, f_max, f_min, f_lstl, f_lstt, f_tupl, f_tupt, o_add, o_sub, o_adds, o_addl, o_addt, x_l, x_t, x_f, x_s, z_l, z_t, z_s, i_l, i_t, i_f, i_i, i_s, n_ss, n_l, n_t, m_f1, m_f2, m_j, a2_0, a2_1, a3_0, a3_1, a3_2, inL2, beq_self_eq_true, k_0, k_1, k_2, k_3, Nat.reduceAdd, Nat.reduceSub, Int.reduceBEq, Int.reduceLT, Int.reduceLE, Int.reduceAdd, Int.reduceSub, Int.reduceNeg, eqNil, h1, isSigns]
    rw [lcGo_mapf (g := fun c => .bl ((decide ([32] ≤ [c]) && decide ([c] ≤ [126])) && !isSub [c] [60, 62])) (fun c _ => by
      cases e1 : decide ([32] ≤ [c]) <;> cases e2 : decide ([c] ≤ [126]) <;> simp only [exs, ex, ev, evs, evr, rdV, getS, setS, b_ok, b_st, b_nx, b_rt, b_brk, b_cnt, b_calm, b_of, fin_ret, fin_nx, optV, clr, clrs, g_nm, g_tp, g_nil, g_cons, List.map_cons, List.map_nil, List.replicate, List.cons_append, List.nil_append, List.length_cons, List.length_nil, isObj, isLst, ownV, retS, List.any_cons, List.any_nil, Bool.or_false, Bool.false_eq_true, if_false, if_true, Option.map_some, Option.bind_some, cvOf, chg, Bool.not_true, Bool.not_false, decide_true, decide_false, reduceCtorEq, Bool.true_and, Bool.false_and, Bool.true_or, Bool.false_or, d_non, d_bl, d_int, d_str, d_tup, d_lst, d_fro, t_str, t_tup, t_lst, t_int, t_intb, t_blb, t_strt, t_strl, t_tups, t_tupl, t_lstt, t_lsts, q_eqs, q_nes, q_eqi, q_nei, q_lt, q_le, q_gt, q_ge, q_les, q_lts, q_in, q_nin, q_isn, q_ist, q_isl, q_iss, q_isi, q_sn, q_st, q_sl, q_ss, q_si, f_lens, f_lenl, f_lent, f_lenf, f_all, f_any, f_int, f_max, f_min, f_lstl, f_lstt, f_tupl, f_tupt, o_add, o_sub, o_adds, o_addl, o_addt, x_l, x_t, x_f, x_s, z_l, z_t, z_s, i_l, i_t, i_f, i_i, i_s, n_ss, n_l, n_t, m_f1, m_f2, m_j, a2_0, a2_1, a3_0, a3_1, a3_2, inL2, beq_self_eq_true, k_0, k_1, k_2, k_3, Nat.reduceAdd, Nat.reduceSub, Int.reduceBEq, Int.reduceLT, Int.reduceLE, Int.reduceAdd, Int.reduceSub, Int.reduceNeg, List.isEmpty, e1, e2])]
    simp only [exs, ex, ev, evs, evr, rdV, getS, setS, b_ok, b_st, b_nx, b_rt, b_brk, b_cnt, b_calm, b_of, fin_ret, fin_nx, optV, clr, clrs, g_nm, g_tp, g_nil, g_cons, List.map_cons, List.map_nil, List.replicate, List.cons_append, List.nil_append, List.length_cons, List.length_nil, isObj, isLst, ownV, retS, List.any_cons, List.any_nil, Bool.or_false, Bool.false_eq_true, if_false, if_true, Option.map_some, Option.bind_some, cvOf, chg, Bool.not_true, Bool.not_false, decide_true, decide_false, reduceCtorEq, Bool.true_and, Bool.false_and, Bool.true_or, Bool.false_or, d_non, d_bl, d_int, d_str, d_tup, d_lst, d_fro, t_str, t_tup, t_lst, t_int, t_intb, t_blb, t_strt, t_strl, t_tups, t_tupl, t_lstt, t_lsts, q_eqs, q_nes, q_eqi, q_nei, q_lt, q_le, q_gt, q_ge, q_les, q_lts, q_in, q_nin, q_isn, q_ist, q_isl, q_iss, q_isi, q_sn, q_st, q_sl, q_ss, q_si, f_lens, f_lenl, f_lent, f_lenf, f_all, f_any, f_int, f_max, f_min, f_lstl, f_lstt, f_tupl, f_tupt, o_add, o_sub, o_adds, o_addl, o_addt, x_l, x_t, x_f, x_s, z_l, z_t, z_s, i_l, i_t, i_f, i_i, i_s, n_ss, n_l, n_t, m_f1, m_f2, m_j, a2_0, a2_1, a3_0, a3_1, a3_2, inL2, beq_self_eq_true, k_0, k_1, k_2, k_3, Nat.reduceAdd, Nat.reduceSub, Int.reduceBEq, Int.reduceLT, Int.reduceLE, Int.reduceAdd, Int.reduceSub, Int.reduceNeg, blsOf_map, all_map]
/-! ### tokens -/
inductive Tk where
  | tx (s : List Nat) | st (s : List Nat) | en (s : List Nat)
def Tk.d : Tk → D
  | .tx s => .tup [.str TEXT, .str s]
  | .st s => .tup [.str START, .str s]
  | .en s => .tup [.str END, .str s]
def Tk.ok : Tk → Bool
  | .tx s => isSigns s
  | .st s => isName s
  | .en s => isName s
def Tk.wr : Tk → List Nat
  | .tx s => s
  | .st s => [60] ++ s ++ [62]
  | .en s => [60, 47] ++ s ++ [62]
theorem TS : (TEXT == START) = false := by decide
theorem TE : (TEXT == END) = false := by decide
theorem ST : (START == TEXT) = false := by decide
theorem ET : (END == TEXT) = false := by decide
theorem SE : (START == END) = false := by decide
theorem ES : (END == START) = false := by decide
theorem c_is_token {t : Tk} : call G wf (n + 2) "is_token" [t.d] m = .ok (.bl t.ok) m := by
  rw [call_eq G_is_token rfl]
  cases t <;> simp only [Tk.d, Tk.ok, f_is_token, exs, ex, ev, evs, evr, rdV, getS, setS, b_ok, b_st, b_nx, b_rt, b_brk, b_cnt, b_calm, b_of, fin_ret, fin_nx, optV, clr, clrs, g_nm, g_tp, g_nil, g_cons, List.map_cons, List.map_nil, List.replicate, List.cons_append, List.nil_append, List.length_cons, List.length_nil, isObj, isLst, ownV, retS, List.any_cons, List.any_nil, Bool.or_false, Bool.false_eq_true, if_false, if_true, Option.map_some, Option.bind_some, cvOf, chg, Bool.not_true, Bool.not_false, decide_true, decide_false, reduceCtorEq, Bool.true_and, Bool.false_and, Bool.true_or, Bool.false_or, d_non, d_bl, d_int, d_str, d_tup, d_lst, d_fro, t_str, t_tup, t_lst, t_int, t_intb, t_blb, t_strt, t_strl, t_tups, t_tupl, t_lstt, t_lsts, q_eqs, q_nes, q_eqi, q_nei, q_lt, q_le, q_gt, q_ge, q_les, q_lts, q_in, q_nin, q_isn, q_ist, q_isl, q_iss, q_isi, q_sn, q_st, q_sl, q_ss, q_si, f_lens, f_lenl, f_lent, f_lenf, f_all, f_any, f_int, f_max, f_min, f_lstl, f_lstt, f_tupl, f_tupt, o_add, o_sub, o_adds, o_addl, o_addt, x_l, x_t, x_f, x_s, z_l, z_t, z_s, i_l, i_t, i_f, i_i, i_s, n_ss, n_l, n_t, m_f1, m_f2, m_j, a2_0, a2_1, a3_0, a3_1, a3_2, inL2, beq_self_eq_true, k_0, k_1, k_2, k_3, Nat.reduceAdd, Nat.reduceSub, Int.reduceBEq, Int.reduceLT, Int.reduceLE, Int.reduceAdd, Int.reduceSub, Int.reduceNeg, c_is_name, c_is_signs, TS, TE, ST, ET, SE, ES]
theorem c_written_token {t : Tk} (h : t.wr.length ≤ 1000) : call G wf (n + 1) "written_token" [t.d] m = .ok (.str t.wr) m := by
  rw [call_eq G_written_token rfl]
  cases t with
  | tx s => simp only [Tk.d, Tk.wr, f_written_token, exs, ex, ev, evs, evr, rdV, getS, setS, b_ok, b_st, b_nx, b_rt, b_brk, b_cnt, b_calm, b_of, fin_ret, fin_nx, optV, clr, clrs, g_nm, g_tp, g_nil, g_cons, List.map_cons, List.map_nil, List.replicate, List.cons_append, List.nil_append, List.length_cons, List.length_nil, isObj, isLst, ownV, retS, List.any_cons, List.any_nil, Bool.or_false, Bool.false_eq_true, if_false, if_true, Option.map_some, Option.bind_some, cvOf, chg, Bool.not_true, Bool.not_false, decide_true, decide_false, reduceCtorEq, Bool.true_and, Bool.false_and, Bool.true_or, Bool.false_or, d_non, d_bl, d_int, d_str, d_tup, d_lst, d_fro, t_str, t_tup, t_lst, t_int, t_intb, t_blb, t_strt, t_strl, t_tups, t_tupl, t_lstt, t_lsts, q_eqs, q_nes, q_eqi, q_nei, q_lt, q_le, q_gt, q_ge, q_les, q_lts, q_in, q_nin, q_isn, q_ist, q_isl, q_iss, q_isi, q_sn, q_st, q_sl, q_ss, q_si, f_lens, f_lenl, f_lent, f_lenf, f_all, f_any, f_int, f_max, f_min, f_lstl, f_lstt, f_tupl, f_tupt, o_add, o_sub, o_adds, o_addl, o_addt, x_l, x_t, x_f, x_s, z_l, z_t, z_s, i_l, i_t, i_f, i_i, i_s, n_ss, n_l, n_t, m_f1, m_f2, m_j, a2_0, a2_1, a3_0, a3_1, a3_2, inL2, beq_self_eq_true, k_0, k_1, k_2, k_3, Nat.reduceAdd, Nat.reduceSub, Int.reduceBEq, Int.reduceLT, Int.reduceLE, Int.reduceAdd, Int.reduceSub, Int.reduceNeg, TS, TE, ST, ET, SE, ES]
  | st s =>
    simp only [Tk.wr, List.length_append, List.length_cons, List.length_nil] at h
    have h1 : 1 + s.length ≤ LIM := by unfold LIM; omega
    have h2 : s.length + 1 + 1 ≤ LIM := by unfold LIM; omega
    simp only [Tk.d, Tk.wr, f_written_token, exs, ex, ev, evs, evr, rdV, getS, setS, b_ok, b_st, b_nx, b_rt, b_brk, b_cnt, b_calm, b_of, fin_ret, fin_nx, optV, clr, clrs, g_nm, g_tp, g_nil, g_cons, List.map_cons, List.map_nil, List.replicate, List.cons_append, List.nil_append, List.length_cons, List.length_nil, isObj, isLst, ownV, retS, List.any_cons, List.any_nil, Bool.or_false, Bool.false_eq_true, if_false, if_true, Option.map_some, Option.bind_some, cvOf, chg, Bool.not_true, Bool.not_false, decide_true, decide_false, reduceCtorEq, Bool.true_and, Bool.false_and, Bool.true_or, Bool.false_or, d_non, d_bl, d_int, d_str, d_tup, d_lst, d_fro, t_str, t_tup, t_lst, t_int, t_intb, t_blb, t_strt, t_strl, t_tups, t_tupl, t_lstt, t_lsts, q_eqs, q_nes, q_eqi, q_nei, q_lt, q_le, q_gt, q_ge, q_les, q_lts, q_in, q_nin, q_isn, q_ist, q_isl, q_iss, q_isi, q_sn, q_st, q_sl, q_ss, q_si, f_lens, f_lenl, f_lent, f_lenf, f_all, f_any, f_int, f_max, f_min, f_lstl, f_lstt, f_tupl, f_tupt, o_add, o_sub, o_adds, o_addl, o_addt, x_l, x_t, x_f, x_s, z_l, z_t, z_s, i_l, i_t, i_f, i_i, i_s, n_ss, n_l, n_t, m_f1, m_f2, m_j, a2_0, a2_1, a3_0, a3_1, a3_2, inL2, beq_self_eq_true, k_0, k_1, k_2, k_3, Nat.reduceAdd, Nat.reduceSub, Int.reduceBEq, Int.reduceLT, Int.reduceLE, Int.reduceAdd, Int.reduceSub, Int.reduceNeg, TS, TE, ST, ET, SE, ES, h1, h2]
  | en s =>
    simp only [Tk.wr, List.length_append, List.length_cons, List.length_nil] at h
    have h1 : 2 + s.length ≤ LIM := by unfold LIM; omega
    have h2 : s.length + 1 + 1 + 1 ≤ LIM := by unfold LIM; omega
    simp only [Tk.d, Tk.wr, f_written_token, exs, ex, ev, evs, evr, rdV, getS, setS, b_ok, b_st, b_nx, b_rt, b_brk, b_cnt, b_calm, b_of, fin_ret, fin_nx, optV, clr, clrs, g_nm, g_tp, g_nil, g_cons, List.map_cons, List.map_nil, List.replicate, List.cons_append, List.nil_append, List.length_cons, List.length_nil, isObj, isLst, ownV, retS, List.any_cons, List.any_nil, Bool.or_false, Bool.false_eq_true, if_false, if_true, Option.map_some, Option.bind_some, cvOf, chg, Bool.not_true, Bool.not_false, decide_true, decide_false, reduceCtorEq, Bool.true_and, Bool.false_and, Bool.true_or, Bool.false_or, d_non, d_bl, d_int, d_str, d_tup, d_lst, d_fro, t_str, t_tup, t_lst, t_int, t_intb, t_blb, t_strt, t_strl, t_tups, t_tupl, t_lstt, t_lsts, q_eqs, q_nes, q_eqi, q_nei, q_lt, q_le, q_gt, q_ge, q_les, q_lts, q_in, q_nin, q_isn, q_ist, q_isl, q_iss, q_isi, q_sn, q_st, q_sl, q_ss, q_si, f_lens, f_lenl, f_lent, f_lenf, f_all, f_any, f_int, f_max, f_min, f_lstl, f_lstt, f_tupl, f_tupt, o_add, o_sub, o_adds, o_addl, o_addt, x_l, x_t, x_f, x_s, z_l, z_t, z_s, i_l, i_t, i_f, i_i, i_s, n_ss, n_l, n_t, m_f1, m_f2, m_j, a2_0, a2_1, a3_0, a3_1, a3_2, inL2, beq_self_eq_true, k_0, k_1, k_2, k_3, Nat.reduceAdd, Nat.reduceSub, Int.reduceBEq, Int.reduceLT, Int.reduceLE, Int.reduceAdd, Int.reduceSub, Int.reduceNeg, TS, TE, ST, ET, SE, ES, h1, h2]
def tagIn (s : List Nat) : D := if s.take 1 = [47] then (if isName (s.drop 1) then .tup [.str END, .str (s.drop 1)] else .non) else (if isName s then .tup [.str START, .str s] else .non)
theorem c_tag_in {s : List Nat} : call G wf (n + 2) "tag_in" [.str s] m = .ok (tagIn s) m := by
  rw [call_eq G_tag_in rfl]
  have e1 : cut s none (some 1) = s.take 1 := cut_none (k := 1)
  have e2 : cut s (some 1) none = s.drop 1 := cut_from (k := 1)
  by_cases h : s.take 1 = [47]
  · cases h2 : isName (s.drop 1) <;> simp only [f_tag_in, exs, ex, ev, evs, evr, rdV, getS, setS, b_ok, b_st, b_nx, b_rt, b_brk, b_cnt, b_calm, b_of, fin_ret, fin_nx, optV, clr, clrs, g_nm, g_tp, g_nil, g_cons, List.map_cons, List.map_nil, List.replicate, List.cons_append, List.nil_append, List.length_cons, List.length_nil, isObj, isLst, ownV, retS, List.any_cons, List.any_nil, Bool.or_false, Bool.false_eq_true, if_false, if_true, Option.map_some, Option.bind_some, cvOf, chg, Bool.not_true, Bool.not_false, decide_true, decide_false, reduceCtorEq, Bool.true_and, Bool.false_and, Bool.true_or, Bool.false_or, d_non, d_bl, d_int, d_str, d_tup, d_lst, d_fro, t_str, t_tup, t_lst, t_int, t_intb, t_blb, t_strt, t_strl, t_tups, t_tupl, t_lstt, t_lsts, q_eqs, q_nes, q_eqi, q_nei, q_lt, q_le, q_gt, q_ge, q_les, q_lts, q_in, q_nin, q_isn, q_ist, q_isl, q_iss, q_isi, q_sn, q_st, q_sl, q_ss, q_si, f_lens, f_lenl, f_lent, f_lenf, f_all, f_any, f_int, f_max, f_min, f_lstl, f_lstt, f_tupl, f_tupt, o_add, o_sub, o_adds, o_addl, o_addt, x_l, x_t, x_f, x_s, z_l, z_t, z_s, i_l, i_t, i_f, i_i, i_s, n_ss, n_l, n_t, m_f1, m_f2, m_j, a2_0, a2_1, a3_0, a3_1, a3_2, inL2, beq_self_eq_true, k_0, k_1, k_2, k_3, Nat.reduceAdd, Nat.reduceSub, Int.reduceBEq, Int.reduceLT, Int.reduceLE, Int.reduceAdd, Int.reduceSub, Int.reduceNeg, e1, e2, h, h2, tagIn, c_is_name, beq_self_eq_true]
  · have h3 : (s.take 1 == [47]) = false := by simpa using h
    cases h2 : isName s <;> simp only [f_tag_in, exs, ex, ev, evs, evr, rdV, getS, setS, b_ok, b_st, b_nx, b_rt, b_brk, b_cnt, b_calm, b_of, fin_ret, fin_nx, optV, clr, clrs, g_nm, g_tp, g_nil, g_cons, List.map_cons, List.map_nil, List.replicate, List.cons_append, List.nil_append, List.length_cons, List.length_nil, isObj, isLst, ownV, retS, List.any_cons, List.any_nil, Bool.or_false, Bool.false_eq_true, if_false, if_true, Option.map_some, Option.bind_some, cvOf, chg, Bool.not_true, Bool.not_false, decide_true, decide_false, reduceCtorEq, Bool.true_and, Bool.false_and, Bool.true_or, Bool.false_or, d_non, d_bl, d_int, d_str, d_tup, d_lst, d_fro, t_str, t_tup, t_lst, t_int, t_intb, t_blb, t_strt, t_strl, t_tups, t_tupl, t_lstt, t_lsts, q_eqs, q_nes, q_eqi, q_nei, q_lt, q_le, q_gt, q_ge, q_les, q_lts, q_in, q_nin, q_isn, q_ist, q_isl, q_iss, q_isi, q_sn, q_st, q_sl, q_ss, q_si, f_lens, f_lenl, f_lent, f_lenf, f_all, f_any, f_int, f_max, f_min, f_lstl, f_lstt, f_tupl, f_tupt, o_add, o_sub, o_adds, o_addl, o_addt, x_l, x_t, x_f, x_s, z_l, z_t, z_s, i_l, i_t, i_f, i_i, i_s, n_ss, n_l, n_t, m_f1, m_f2, m_j, a2_0, a2_1, a3_0, a3_1, a3_2, inL2, beq_self_eq_true, k_0, k_1, k_2, k_3, Nat.reduceAdd, Nat.reduceSub, Int.reduceBEq, Int.reduceLT, Int.reduceLE, Int.reduceAdd, Int.reduceSub, Int.reduceNeg, e1, e2, h, h3, h2, tagIn, c_is_name]
end Lt

set_option linter.all false
set_option maxRecDepth 100000
set_option maxHeartbeats 2000000
namespace Lt
variable {wf n : Nat} {m : Mem}
/-! ### the text of tokens, read -/
theorem ff_none {c : Nat} : ∀ {s : List Nat} {i : Nat}, c ∉ s → findFrom [c] s i = none
  | [], i, h => rfl
  | x :: s, i, h => by
    have h1 : ¬ c = x := fun e => h (by simp [e])
    have h2 : c ∉ s := fun e => h (by simp [e])
    simp [findFrom, h1, ff_none h2]
theorem ff_at {c : Nat} {b : List Nat} : ∀ {a : List Nat} {i : Nat}, c ∉ a → findFrom [c] (a ++ c :: b) i = some (i + a.length)
  | [], i, h => by simp [findFrom]
  | x :: s, i, h => by
    have h1 : ¬ c = x := fun e => h (by simp [e])
    have h2 : c ∉ s := fun e => h (by simp [e])
    simp [findFrom, h1, ff_at h2]
    omega
theorem isSub_mem {c : Nat} {s : List Nat} : isSub [c] s = true ↔ c ∈ s := by
  by_cases h : c ∈ s
  · obtain ⟨a, b, e, h2⟩ := List.append_of_mem h |> fun ⟨a, b, e⟩ => (⟨a, b, e, trivial⟩ : ∃ a b, s = a ++ c :: b ∧ True)
    simp only [h, iff_true]
    clear e h2
    induction s with
    | nil => cases h
    | cons x s ih =>
      unfold isSub
      by_cases hx : c = x
      · simp [findFrom, hx]
      · have : c ∈ s := by simpa [hx] using h
        have := ih this
        unfold isSub at this
        have key : ∀ (s : List Nat) (i j : Nat), (findFrom [c] s i).isSome = (findFrom [c] s j).isSome := by
          intro s
          induction s with
          | nil => intro i j; rfl
          | cons y s ih => intro i j; simp only [findFrom]; split <;> first | rfl | exact ih _ _
        simp [findFrom, hx]
        rw [key s 1 0]
        exact this
  · simp only [h, iff_false]
    unfold isSub
    rw [ff_none h]
    decide
theorem name_not {s : List Nat} (h : isName s = true) : 60 ∉ s ∧ 62 ∉ s ∧ 47 ∉ s ∧ s ≠ [] ∧ s.length ≤ 12 := by
  simp only [isName, Bool.and_eq_true, Bool.not_eq_true', decide_eq_true_eq, List.all_eq_true] at h
  obtain ⟨⟨h1, h2⟩, h3⟩ := h
  have no : ∀ c, c ∉ LETTERS → c ∉ s := fun c hc hs => hc (isSub_mem.mp (h3 c hs))
  refine ⟨no 60 (by decide), no 62 (by decide), no 47 (by decide), ?_, h2⟩
  rintro rfl
  cases h1
theorem signs_not {s : List Nat} (h : isSigns s = true) : 60 ∉ s ∧ 62 ∉ s ∧ s ≠ [] := by
  simp only [isSigns, Bool.and_eq_true, Bool.not_eq_true', decide_eq_true_eq, List.all_eq_true] at h
  obtain ⟨h1, h3⟩ := h
  have no : ∀ c, c ∈ [60, 62] → c ∉ s := fun c hc hs => by
    have := (h3 c hs).2
    rw [isSub_mem.mpr hc] at this
    cases this
  refine ⟨no 60 (by decide), no 62 (by decide), ?_⟩
  rintro rfl
  cases h1
def wrs : List Tk → List Nat
  | [] => []
  | t :: r => t.wr ++ wrs r
def Tk.isTx : Tk → Bool
  | .tx _ => true
  | _ => false
def sep : List Tk → Bool
  | [] => true
  | [_] => true
  | a :: b :: r => !(a.isTx && b.isTx) && sep (b :: r)
def piecesD : Nat → List Tk → List D
  | _, [] => []
  | p, t :: r => .tup [t.d, .int (p : Nat), .int ((p + t.wr.length : Nat))] :: piecesD (p + t.wr.length) r
theorem tagIn_st {s : List Nat} (h : isName s = true) : tagIn s = (Tk.st s).d := by
  obtain ⟨_, _, h3, h4, _⟩ := name_not h
  unfold tagIn
  have : ¬ s.take 1 = [47] := by
    cases s with
    | nil => exact absurd rfl h4
    | cons x s => simp; rintro rfl; exact h3 (by simp)
  simp [this, h, Tk.d]
theorem tagIn_en {s : List Nat} (h : isName s = true) : tagIn (47 :: s) = (Tk.en s).d := by
  unfold tagIn
  simp [h, Tk.d]
/-- find(c, at) of a text pre ++ .. -/
theorem find_at {c : Nat} {pre a b : List Nat} (h : c ∉ a) : mthD .find2 (.str (pre ++ (a ++ c :: b))) [.str [c], .int (pre.length : Nat)] = some (.int ((pre.length + a.length : Nat))) := by
  simp only [mthD, List.isEmpty]
  rw [if_neg (by simp; omega)]
  simp [ff_at h]
theorem find_no {c : Nat} {pre a : List Nat} (h : c ∉ a) : mthD .find2 (.str (pre ++ a)) [.str [c], .int (pre.length : Nat)] = some (.int (-1)) := by
  simp only [mthD, List.isEmpty]
  rw [if_neg (by simp; omega)]
  simp [ff_none h]
theorem pc_tag {text inner : List Nat} {found l : List D} {p q : Int} {x y : SV} (h1 : (pyIx text.length p).bind (fun j => (text[j]?).map fun c => D.str [c]) = some (.str [60])) (h2 : mthD .find2 (.str text) [.str [62], .int p] = some (.int q)) (h3 : 0 < q + 1) (h4 : cut text (some (p + 1)) (some (q + 1 - 1)) = inner) (h5 : tagIn inner = .tup l) (h6 : found.length < LIM) :
    exs (cvOf G wf (n + 2)) f_pieces_in_b2 [.val (.str text), .own (.lst found), .val (.int p), x, y] m = .ok .nx [.val (.str text), .own (.lst (found ++ [.tup [.tup l, .int p, .int (q + 1)]])), .val (.int (q + 1)), .val (.int (q + 1)), .val (.tup l)] m := by
  simp only [f_pieces_in_b2, exs, ex, ev, evs, evr, rdV, getS, setS, b_ok, b_st, b_nx, b_rt, b_brk, b_cnt, b_calm, b_of, fin_ret, fin_nx, optV, clr, clrs, g_nm, g_tp, g_nil, g_cons, List.map_cons, List.map_nil, List.replicate, List.cons_append, List.nil_append, List.length_cons, List.length_nil, isObj, isLst, ownV, retS, List.any_cons, List.any_nil, Bool.or_false, Bool.false_eq_true, if_false, if_true, Option.map_some, Option.bind_some, cvOf, chg, Bool.not_true, Bool.not_false, decide_true, decide_false, reduceCtorEq, Bool.true_and, Bool.false_and, Bool.true_or, Bool.false_or, d_non, d_bl, d_int, d_str, d_tup, d_lst, d_fro, t_str, t_tup, t_lst, t_int, t_intb, t_blb, t_strt, t_strl, t_tups, t_tupl, t_lstt, t_lsts, q_eqs, q_nes, q_eqi, q_nei, q_lt, q_le, q_gt, q_ge, q_les, q_lts, q_in, q_nin, q_isn, q_ist, q_isl, q_iss, q_isi, q_sn, q_st, q_sl, q_ss, q_si, f_lens, f_lenl, f_lent, f_lenf, f_all, f_any, f_int, f_max, f_min, f_lstl, f_lstt, f_tupl, f_tupt, o_add, o_sub, o_adds, o_addl, o_addt, x_l, x_t, x_f, x_s, z_l, z_t, z_s, i_l, i_t, i_f, i_i, i_s, n_ss, n_l, n_t, m_f1, m_f2, m_j, a2_0, a2_1, a3_0, a3_1, a3_2, inL2, beq_self_eq_true, o_app, Bool.true_eq_false, k_0, k_1, k_2, k_3, Nat.reduceAdd, Nat.reduceSub, Int.reduceBEq, Int.reduceLT, Int.reduceLE, Int.reduceAdd, Int.reduceSub, Int.reduceNeg, h1, h2, h3, h4, c_tag_in, h5, h6]
theorem b1060 {c : Nat} (h : c ≠ 60) : ([c] == [60]) = false := by simpa using h
theorem pc_txt {text piece : List Nat} {found : List D} {p q q' : Int} {c : Nat} {x y : SV} (hc : c ≠ 60) (h1 : (pyIx text.length p).bind (fun j => (text[j]?).map fun c => D.str [c]) = some (.str [c])) (h2 : mthD .find2 (.str text) [.str [60], .int p] = some (.int q)) (h3 : q' = if q < 0 then (text.length : Int) else q) (h4 : cut text (some p) (some q') = piece) (h5 : isSigns piece = true) (h6 : found.length < LIM) :
    exs (cvOf G wf (n + 2)) f_pieces_in_b2 [.val (.str text), .own (.lst found), .val (.int p), x, y] m = .ok .nx [.val (.str text), .own (.lst (found ++ [.tup [.tup [.str TEXT, .str piece], .int p, .int q']])), .val (.int q'), .val (.int q'), .val (.tup [.str TEXT, .str piece])] m := by
  by_cases hq : q < 0
  · rw [if_pos hq] at h3
    subst h3
    simp only [f_pieces_in_b2, exs, ex, ev, evs, evr, rdV, getS, setS, b_ok, b_st, b_nx, b_rt, b_brk, b_cnt, b_calm, b_of, fin_ret, fin_nx, optV, clr, clrs, g_nm, g_tp, g_nil, g_cons, List.map_cons, List.map_nil, List.replicate, List.cons_append, List.nil_append, List.length_cons, List.length_nil, isObj, isLst, ownV, retS, List.any_cons, List.any_nil, Bool.or_false, Bool.false_eq_true, if_false, if_true, Option.map_some, Option.bind_some, cvOf, chg, Bool.not_true, Bool.not_false, decide_true, decide_false, reduceCtorEq, Bool.true_and, Bool.false_and, Bool.true_or, Bool.false_or, d_non, d_bl, d_int, d_str, d_tup, d_lst, d_fro, t_str, t_tup, t_lst, t_int, t_intb, t_blb, t_strt, t_strl, t_tups, t_tupl, t_lstt, t_lsts, q_eqs, q_nes, q_eqi, q_nei, q_lt, q_le, q_gt, q_ge, q_les, q_lts, q_in, q_nin, q_isn, q_ist, q_isl, q_iss, q_isi, q_sn, q_st, q_sl, q_ss, q_si, f_lens, f_lenl, f_lent, f_lenf, f_all, f_any, f_int, f_max, f_min, f_lstl, f_lstt, f_tupl, f_tupt, o_add, o_sub, o_adds, o_addl, o_addt, x_l, x_t, x_f, x_s, z_l, z_t, z_s, i_l, i_t, i_f, i_i, i_s, n_ss, n_l, n_t, m_f1, m_f2, m_j, a2_0, a2_1, a3_0, a3_1, a3_2, inL2, beq_self_eq_true, o_app, Bool.true_eq_false, k_0, k_1, k_2, k_3, Nat.reduceAdd, Nat.reduceSub, Int.reduceBEq, Int.reduceLT, Int.reduceLE, Int.reduceAdd, Int.reduceSub, Int.reduceNeg, h1, h2, h4, c_is_signs, h5, h6, b1060 hc, hq]
  · rw [if_neg hq] at h3
    subst h3
    simp only [f_pieces_in_b2, exs, ex, ev, evs, evr, rdV, getS, setS, b_ok, b_st, b_nx, b_rt, b_brk, b_cnt, b_calm, b_of, fin_ret, fin_nx, optV, clr, clrs, g_nm, g_tp, g_nil, g_cons, List.map_cons, List.map_nil, List.replicate, List.cons_append, List.nil_append, List.length_cons, List.length_nil, isObj, isLst, ownV, retS, List.any_cons, List.any_nil, Bool.or_false, Bool.false_eq_true, if_false, if_true, Option.map_some, Option.bind_some, cvOf, chg, Bool.not_true, Bool.not_false, decide_true, decide_false, reduceCtorEq, Bool.true_and, Bool.false_and, Bool.true_or, Bool.false_or, d_non, d_bl, d_int, d_str, d_tup, d_lst, d_fro, t_str, t_tup, t_lst, t_int, t_intb, t_blb, t_strt, t_strl, t_tups, t_tupl, t_lstt, t_lsts, q_eqs, q_nes, q_eqi, q_nei, q_lt, q_le, q_gt, q_ge, q_les, q_lts, q_in, q_nin, q_isn, q_ist, q_isl, q_iss, q_isi, q_sn, q_st, q_sl, q_ss, q_si, f_lens, f_lenl, f_lent, f_lenf, f_all, f_any, f_int, f_max, f_min, f_lstl, f_lstt, f_tupl, f_tupt, o_add, o_sub, o_adds, o_addl, o_addt, x_l, x_t, x_f, x_s, z_l, z_t, z_s, i_l, i_t, i_f, i_i, i_s, n_ss, n_l, n_t, m_f1, m_f2, m_j, a2_0, a2_1, a3_0, a3_1, a3_2, inL2, beq_self_eq_true, o_app, Bool.true_eq_false, k_0, k_1, k_2, k_3, Nat.reduceAdd, Nat.reduceSub, Int.reduceBEq, Int.reduceLT, Int.reduceLE, Int.reduceAdd, Int.reduceSub, Int.reduceNeg, h1, h2, h4, c_is_signs, h5, h6, b1060 hc, hq]
theorem pc_test {text : List Nat} {found : List D} {p : Int} {x y : SV} : ev (cvOf G wf n) f_pieces_in_c1 [.val (.str text), .own (.lst found), .val (.int p), x, y] m = .ok (.bl (decide (p < text.length))) m := by
  simp only [f_pieces_in_c1, exs, ex, ev, evs, evr, rdV, getS, setS, b_ok, b_st, b_nx, b_rt, b_brk, b_cnt, b_calm, b_of, fin_ret, fin_nx, optV, clr, clrs, g_nm, g_tp, g_nil, g_cons, List.map_cons, List.map_nil, List.replicate, List.cons_append, List.nil_append, List.length_cons, List.length_nil, isObj, isLst, ownV, retS, List.any_cons, List.any_nil, Bool.or_false, Bool.false_eq_true, if_false, if_true, Option.map_some, Option.bind_some, cvOf, chg, Bool.not_true, Bool.not_false, decide_true, decide_false, reduceCtorEq, Bool.true_and, Bool.false_and, Bool.true_or, Bool.false_or, d_non, d_bl, d_int, d_str, d_tup, d_lst, d_fro, t_str, t_tup, t_lst, t_int, t_intb, t_blb, t_strt, t_strl, t_tups, t_tupl, t_lstt, t_lsts, q_eqs, q_nes, q_eqi, q_nei, q_lt, q_le, q_gt, q_ge, q_les, q_lts, q_in, q_nin, q_isn, q_ist, q_isl, q_iss, q_isi, q_sn, q_st, q_sl, q_ss, q_si, f_lens, f_lenl, f_lent, f_lenf, f_all, f_any, f_int, f_max, f_min, f_lstl, f_lstt, f_tupl, f_tupt, o_add, o_sub, o_adds, o_addl, o_addt, x_l, x_t, x_f, x_s, z_l, z_t, z_s, i_l, i_t, i_f, i_i, i_s, n_ss, n_l, n_t, m_f1, m_f2, m_j, a2_0, a2_1, a3_0, a3_1, a3_2, inL2, beq_self_eq_true, o_app, Bool.true_eq_false, k_0, k_1, k_2, k_3, Nat.reduceAdd, Nat.reduceSub, Int.reduceBEq, Int.reduceLT, Int.reduceLE, Int.reduceAdd, Int.reduceSub, Int.reduceNeg]
theorem at_app {pre r : List Nat} {c : Nat} : (pyIx (pre ++ c :: r).length (pre.length : Nat)).bind (fun j => ((pre ++ c :: r)[j]?).map fun c => D.str [c]) = some (.str [c]) := by
  rw [pyIx_nat (by simp)]
  simp
theorem cut_app {a b c : List Nat} {i j : Int} (hi : i = (a.length : Nat)) (hj : j = ((a.length + b.length : Nat))) : cut (a ++ (b ++ c)) (some i) (some j) = b := by
  subst hi hj
  rw [cut_mid (by simp) (by simp <;> omega)]
  simp
theorem wrs_tx {r : List Tk} (h : ∀ t ∈ r, t.ok = true) (hs : ∀ t, r.head? = some t → t.isTx = false) : wrs r = [] ∨ ∃ b, wrs r = 60 :: b := by
  cases r with
  | nil => exact .inl rfl
  | cons t r =>
    right
    cases t with
    | tx s => have := hs _ rfl; cases this
    | st s => exact ⟨_, rfl⟩
    | en s => exact ⟨_, rfl⟩
theorem pieces_loop : ∀ (r : List Tk) (pre : List Nat) (fuel : Nat) (found : List D) (x y : SV), (∀ t ∈ r, t.ok = true) → sep r = true → r.length < fuel → found.length + r.length ≤ LIM →
    ∃ x' y', whlGo (ev (cvOf G wf (n + 2)) f_pieces_in_c1) (exs (cvOf G wf (n + 2)) f_pieces_in_b2) fuel [.val (.str (pre ++ wrs r)), .own (.lst found), .val (.int (pre.length : Nat)), x, y] m =
      .ok .nx [.val (.str (pre ++ wrs r)), .own (.lst (found ++ piecesD pre.length r)), .val (.int ((pre ++ wrs r).length : Nat)), x', y'] m
  | [], pre, fuel, found, x, y, _, _, hf, _ => by
    cases fuel with
    | zero => cases hf
    | succ f =>
      refine ⟨x, y, ?_⟩
      simp only [whlGo, pc_test, wrs, piecesD, List.append_nil, b_st]
      simp
  | t :: r, pre, fuel, found, x, y, hok, hs, hf, hl => by
    cases fuel with
    | zero => cases hf
    | succ f =>
      have hne : t.wr ≠ [] := by
        have ht := hok t (by simp)
        cases t with
        | tx s => exact (signs_not ht).2.2
        | st s => simp [Tk.wr]
        | en s => simp [Tk.wr]
      have hlt : ((pre.length : Nat) : Int) < (((pre ++ wrs (t :: r)).length : Nat) : Int) := by
        have : 0 < t.wr.length := List.length_pos_iff.mpr hne
        simp only [wrs, List.length_append]
        omega
      have hs' : sep r = true := by
        cases r with
        | nil => rfl
        | cons b r => simp only [sep, Bool.and_eq_true] at hs; exact hs.2
      have step : ∃ x' y', exs (cvOf G wf (n + 2)) f_pieces_in_b2 [.val (.str (pre ++ wrs (t :: r))), .own (.lst found), .val (.int (pre.length : Nat)), x, y] m =
          .ok .nx [.val (.str (pre ++ wrs (t :: r))), .own (.lst (found ++ [.tup [t.d, .int (pre.length : Nat), .int ((pre.length + t.wr.length : Nat))]])), .val (.int ((pre.length + t.wr.length : Nat))), x', y'] m := by
        have hL : found.length < LIM := by simp only [List.length_cons] at hl; omega
        cases t with
        | tx s =>
          have ht := hok _ List.mem_cons_self
          obtain ⟨n1, n2, n3⟩ := signs_not ht
          obtain ⟨c, s', rfl⟩ : ∃ c s', s = c :: s' := by cases s with | nil => exact absurd rfl n3 | cons c s' => exact ⟨c, s', rfl⟩
          have hc : c ≠ 60 := fun e => n1 (by simp [e])
          have hr := wrs_tx (r := r) (fun t h => hok t (by simp [h])) (fun t h => by
            cases r with
            | nil => cases h
            | cons b r =>
              cases h
              cases t <;> first | rfl | (simp [sep, Tk.isTx] at hs))
          rcases hr with hr | ⟨b, hr⟩
          · have e : pre ++ wrs (.tx (c :: s') :: r) = pre ++ (c :: s') := by simp [wrs, Tk.wr, hr]
            refine ⟨.val (.int ((pre.length + (Tk.tx (c :: s')).wr.length : Nat))), .val (.tup [.str TEXT, .str (c :: s')]), ?_⟩
            rw [e]
            exact pc_txt (q := -1) hc at_app (find_no n1) (by rw [if_pos (by omega)]; simp [Tk.wr]) (by have := cut_app (a := pre) (b := c :: s') (c := []) (i := (pre.length : Nat)) (j := ((pre.length + (c :: s').length : Nat))) rfl rfl; rw [List.append_nil] at this; exact this) ht hL
          · have e : pre ++ wrs (.tx (c :: s') :: r) = pre ++ ((c :: s') ++ 60 :: b) := by simp [wrs, Tk.wr, hr]
            refine ⟨.val (.int ((pre.length + (Tk.tx (c :: s')).wr.length : Nat))), .val (.tup [.str TEXT, .str (c :: s')]), ?_⟩
            rw [e]
            exact pc_txt (q := ((pre.length + (c :: s').length : Nat))) hc at_app (find_at n1) (by rw [if_neg (by omega)]; rfl) (cut_app rfl rfl) ht hL
        | st s =>
          have ht := hok _ List.mem_cons_self
          obtain ⟨n1, n2, n3, n4, n5⟩ := name_not ht
          have e : pre ++ wrs (.st s :: r) = pre ++ ((60 :: s) ++ 62 :: wrs r) := by simp [wrs, Tk.wr]
          have e2 : pre ++ wrs (.st s :: r) = (pre ++ [60]) ++ (s ++ (62 :: wrs r)) := by simp [wrs, Tk.wr]
          have q1 : ((pre.length + (60 :: s).length : Nat) : Int) + 1 = ((pre.length + (Tk.st s).wr.length : Nat) : Int) := by simp [Tk.wr]; omega
          refine ⟨.val (.int ((pre.length + (Tk.st s).wr.length : Nat))), .val (.tup [.str START, .str s]), ?_⟩
          have := pc_tag (wf := wf) (n := n) (m := m) (x := x) (y := y) (text := pre ++ wrs (.st s :: r)) (found := found) (p := (pre.length : Nat)) (q := ((pre.length + (60 :: s).length : Nat))) (inner := s) (l := [.str START, .str s])
            (by rw [e]; exact at_app) (by rw [e]; exact find_at (by simpa using n2)) (by omega) (by rw [e2]; exact cut_app (by simp) (by simp; omega)) (tagIn_st ht) hL
          rw [q1] at this
          exact this
        | en s =>
          have ht := hok _ List.mem_cons_self
          obtain ⟨n1, n2, n3, n4, n5⟩ := name_not ht
          have e : pre ++ wrs (.en s :: r) = pre ++ ((60 :: 47 :: s) ++ 62 :: wrs r) := by simp [wrs, Tk.wr]
          have e2 : pre ++ wrs (.en s :: r) = (pre ++ [60]) ++ ((47 :: s) ++ (62 :: wrs r)) := by simp [wrs, Tk.wr]
          have q1 : ((pre.length + (60 :: 47 :: s).length : Nat) : Int) + 1 = ((pre.length + (Tk.en s).wr.length : Nat) : Int) := by simp [Tk.wr]; omega
          refine ⟨.val (.int ((pre.length + (Tk.en s).wr.length : Nat))), .val (.tup [.str END, .str s]), ?_⟩
          have := pc_tag (wf := wf) (n := n) (m := m) (x := x) (y := y) (text := pre ++ wrs (.en s :: r)) (found := found) (p := (pre.length : Nat)) (q := ((pre.length + (60 :: 47 :: s).length : Nat))) (inner := 47 :: s) (l := [.str END, .str s])
            (by rw [e]; exact at_app) (by rw [e]; exact find_at (by simpa using n2)) (by omega) (by rw [e2]; exact cut_app (by simp) (by simp; omega)) (tagIn_en ht) hL
          rw [q1] at this
          exact this
      obtain ⟨x1, y1, e1⟩ := step
      have e3 : pre ++ wrs (t :: r) = (pre ++ t.wr) ++ wrs r := by simp [wrs]
      obtain ⟨x', y', ih⟩ := pieces_loop r (pre ++ t.wr) f (found ++ [.tup [t.d, .int (pre.length : Nat), .int ((pre.length + t.wr.length : Nat))]]) x1 y1 (fun t h => hok t (by simp [h])) hs' (by simp at hf; omega) (by simp at hl ⊢; omega)
      refine ⟨x', y', ?_⟩
      simp only [whlGo, pc_test, b_st, decide_eq_true hlt, e1]
      rw [e3]
      have e4 : (pre ++ t.wr).length = pre.length + t.wr.length := by simp
      rw [e4] at ih
      rw [ih]
      simp [piecesD]
end Lt

set_option linter.all false
set_option maxRecDepth 100000
set_option maxHeartbeats 2000000
namespace Lt
variable {wf n : Nat} {m : Mem}
/-- a list of tokens that is well made -/
structure Good (l : List Tk) : Prop where
  ok : ∀ t ∈ l, t.ok = true
  sp : sep l = true
theorem c_pieces_in {l : List Tk} (h : Good l) (hw : l.length < wf) (hl : l.length ≤ LIM) : call G wf (n + 3) "pieces_in" [.str (wrs l)] m = .ok (.lst (piecesD 0 l)) m := by
  rw [call_eq G_pieces_in rfl]
  obtain ⟨x', y', key⟩ := pieces_loop (wf := wf) (n := n) (m := m) l [] wf [] .no .no h.ok h.sp hw (by simpa using hl)
  simp only [List.nil_append, List.length_nil, k_0] at key
  simp only [f_pieces_in, exs, ex, ev, evs, evr, rdV, getS, setS, b_ok, b_st, b_nx, b_rt, b_brk, b_cnt, b_calm, b_of, fin_ret, fin_nx, optV, clr, clrs, g_nm, g_tp, g_nil, g_cons, List.map_cons, List.map_nil, List.replicate, List.cons_append, List.nil_append, List.length_cons, List.length_nil, isObj, isLst, ownV, retS, List.any_cons, List.any_nil, Bool.or_false, Bool.false_eq_true, if_false, if_true, Option.map_some, Option.bind_some, cvOf, chg, Bool.not_true, Bool.not_false, decide_true, decide_false, reduceCtorEq, Bool.true_and, Bool.false_and, Bool.true_or, Bool.false_or, d_non, d_bl, d_int, d_str, d_tup, d_lst, d_fro, t_str, t_tup, t_lst, t_int, t_intb, t_blb, t_strt, t_strl, t_tups, t_tupl, t_lstt, t_lsts, q_eqs, q_nes, q_eqi, q_nei, q_lt, q_le, q_gt, q_ge, q_les, q_lts, q_in, q_nin, q_isn, q_ist, q_isl, q_iss, q_isi, q_sn, q_st, q_sl, q_ss, q_si, f_lens, f_lenl, f_lent, f_lenf, f_all, f_any, f_int, f_max, f_min, f_lstl, f_lstt, f_tupl, f_tupt, o_add, o_sub, o_adds, o_addl, o_addt, x_l, x_t, x_f, x_s, z_l, z_t, z_s, i_l, i_t, i_f, i_i, i_s, n_ss, n_l, n_t, m_f1, m_f2, m_j, a2_0, a2_1, a3_0, a3_1, a3_2, inL2, beq_self_eq_true, o_app, Bool.true_eq_false, k_0, k_1, k_2, k_3, Nat.reduceAdd, Nat.reduceSub, Int.reduceBEq, Int.reduceLT, Int.reduceLE, Int.reduceAdd, Int.reduceSub, Int.reduceNeg, key]
theorem c_checked {l : List Tk} (h : Good l) (hw : l.length < wf) (hl : l.length ≤ LIM) : call G wf (n + 4) "checked_pieces" [.str (wrs l)] m = .ok (.lst (piecesD 0 l)) m := by
  rw [call_eq G_checked_pieces rfl]
  simp only [f_checked_pieces, exs, ex, ev, evs, evr, rdV, getS, setS, b_ok, b_st, b_nx, b_rt, b_brk, b_cnt, b_calm, b_of, fin_ret, fin_nx, optV, clr, clrs, g_nm, g_tp, g_nil, g_cons, List.map_cons, List.map_nil, List.replicate, List.cons_append, List.nil_append, List.length_cons, List.length_nil, isObj, isLst, ownV, retS, List.any_cons, List.any_nil, Bool.or_false, Bool.false_eq_true, if_false, if_true, Option.map_some, Option.bind_some, cvOf, chg, Bool.not_true, Bool.not_false, decide_true, decide_false, reduceCtorEq, Bool.true_and, Bool.false_and, Bool.true_or, Bool.false_or, d_non, d_bl, d_int, d_str, d_tup, d_lst, d_fro, t_str, t_tup, t_lst, t_int, t_intb, t_blb, t_strt, t_strl, t_tups, t_tupl, t_lstt, t_lsts, q_eqs, q_nes, q_eqi, q_nei, q_lt, q_le, q_gt, q_ge, q_les, q_lts, q_in, q_nin, q_isn, q_ist, q_isl, q_iss, q_isi, q_sn, q_st, q_sl, q_ss, q_si, f_lens, f_lenl, f_lent, f_lenf, f_all, f_any, f_int, f_max, f_min, f_lstl, f_lstt, f_tupl, f_tupt, o_add, o_sub, o_adds, o_addl, o_addt, x_l, x_t, x_f, x_s, z_l, z_t, z_s, i_l, i_t, i_f, i_i, i_s, n_ss, n_l, n_t, m_f1, m_f2, m_j, a2_0, a2_1, a3_0, a3_1, a3_2, inL2, beq_self_eq_true, o_app, Bool.true_eq_false, k_0, k_1, k_2, k_3, Nat.reduceAdd, Nat.reduceSub, Int.reduceBEq, Int.reduceLT, Int.reduceLE, Int.reduceAdd, Int.reduceSub, Int.reduceNeg, c_pieces_in h hw hl]
theorem c_check_tokens {l : List Tk} (h : ∀ t ∈ l, t.ok = true) : call G wf (n + 3) "check_tokens" [.lst (l.map Tk.d)] m = .ok .non m := by
  rw [call_eq G_check_tokens rfl]
  simp only [f_check_tokens, exs, ex, ev, evs, evr, rdV, getS, setS, b_ok, b_st, b_nx, b_rt, b_brk, b_cnt, b_calm, b_of, fin_ret, fin_nx, optV, clr, clrs, g_nm, g_tp, g_nil, g_cons, List.map_cons, List.map_nil, List.replicate, List.cons_append, List.nil_append, List.length_cons, List.length_nil, isObj, isLst, ownV, retS, List.any_cons, List.any_nil, Bool.or_false, Bool.false_eq_true, if_false, if_true, Option.map_some, Option.bind_some, cvOf, chg, Bool.not_true, Bool.not_false, decide_true, decide_false, reduceCtorEq, Bool.true_and, Bool.false_and, Bool.true_or, Bool.false_or, d_non, d_bl, d_int, d_str, d_tup, d_lst, d_fro, t_str, t_tup, t_lst, t_int, t_intb, t_blb, t_strt, t_strl, t_tups, t_tupl, t_lstt, t_lsts, q_eqs, q_nes, q_eqi, q_nei, q_lt, q_le, q_gt, q_ge, q_les, q_lts, q_in, q_nin, q_isn, q_ist, q_isl, q_iss, q_isi, q_sn, q_st, q_sl, q_ss, q_si, f_lens, f_lenl, f_lent, f_lenf, f_all, f_any, f_int, f_max, f_min, f_lstl, f_lstt, f_tupl, f_tupt, o_add, o_sub, o_adds, o_addl, o_addt, x_l, x_t, x_f, x_s, z_l, z_t, z_s, i_l, i_t, i_f, i_i, i_s, n_ss, n_l, n_t, m_f1, m_f2, m_j, a2_0, a2_1, a3_0, a3_1, a3_2, inL2, beq_self_eq_true, o_app, Bool.true_eq_false, k_0, k_1, k_2, k_3, Nat.reduceAdd, Nat.reduceSub, Int.reduceBEq, Int.reduceLT, Int.reduceLE, Int.reduceAdd, Int.reduceSub, Int.reduceNeg]
  rw [lcGo_mapf (g := fun t : Tk => .bl t.ok) (fun t _ => by simp only [exs, ex, ev, evs, evr, rdV, getS, setS, b_ok, b_st, b_nx, b_rt, b_brk, b_cnt, b_calm, b_of, fin_ret, fin_nx, optV, clr, clrs, g_nm, g_tp, g_nil, g_cons, List.map_cons, List.map_nil, List.replicate, List.cons_append, List.nil_append, List.length_cons, List.length_nil, isObj, isLst, ownV, retS, List.any_cons, List.any_nil, Bool.or_false, Bool.false_eq_true, if_false, if_true, Option.map_some, Option.bind_some, cvOf, chg, Bool.not_true, Bool.not_false, decide_true, decide_false, reduceCtorEq, Bool.true_and, Bool.false_and, Bool.true_or, Bool.false_or, d_non, d_bl, d_int, d_str, d_tup, d_lst, d_fro, t_str, t_tup, t_lst, t_int, t_intb, t_blb, t_strt, t_strl, t_tups, t_tupl, t_lstt, t_lsts, q_eqs, q_nes, q_eqi, q_nei, q_lt, q_le, q_gt, q_ge, q_les, q_lts, q_in, q_nin, q_isn, q_ist, q_isl, q_iss, q_isi, q_sn, q_st, q_sl, q_ss, q_si, f_lens, f_lenl, f_lent, f_lenf, f_all, f_any, f_int, f_max, f_min, f_lstl, f_lstt, f_tupl, f_tupt, o_add, o_sub, o_adds, o_addl, o_addt, x_l, x_t, x_f, x_s, z_l, z_t, z_s, i_l, i_t, i_f, i_i, i_s, n_ss, n_l, n_t, m_f1, m_f2, m_j, a2_0, a2_1, a3_0, a3_1, a3_2, inL2, beq_self_eq_true, o_app, Bool.true_eq_false, k_0, k_1, k_2, k_3, Nat.reduceAdd, Nat.reduceSub, Int.reduceBEq, Int.reduceLT, Int.reduceLE, Int.reduceAdd, Int.reduceSub, Int.reduceNeg, c_is_token])]
  have e : l.all Tk.ok = true := List.all_eq_true.mpr h
  simp only [exs, ex, ev, evs, evr, rdV, getS, setS, b_ok, b_st, b_nx, b_rt, b_brk, b_cnt, b_calm, b_of, fin_ret, fin_nx, optV, clr, clrs, g_nm, g_tp, g_nil, g_cons, List.map_cons, List.map_nil, List.replicate, List.cons_append, List.nil_append, List.length_cons, List.length_nil, isObj, isLst, ownV, retS, List.any_cons, List.any_nil, Bool.or_false, Bool.false_eq_true, if_false, if_true, Option.map_some, Option.bind_some, cvOf, chg, Bool.not_true, Bool.not_false, decide_true, decide_false, reduceCtorEq, Bool.true_and, Bool.false_and, Bool.true_or, Bool.false_or, d_non, d_bl, d_int, d_str, d_tup, d_lst, d_fro, t_str, t_tup, t_lst, t_int, t_intb, t_blb, t_strt, t_strl, t_tups, t_tupl, t_lstt, t_lsts, q_eqs, q_nes, q_eqi, q_nei, q_lt, q_le, q_gt, q_ge, q_les, q_lts, q_in, q_nin, q_isn, q_ist, q_isl, q_iss, q_isi, q_sn, q_st, q_sl, q_ss, q_si, f_lens, f_lenl, f_lent, f_lenf, f_all, f_any, f_int, f_max, f_min, f_lstl, f_lstt, f_tupl, f_tupt, o_add, o_sub, o_adds, o_addl, o_addt, x_l, x_t, x_f, x_s, z_l, z_t, z_s, i_l, i_t, i_f, i_i, i_s, n_ss, n_l, n_t, m_f1, m_f2, m_j, a2_0, a2_1, a3_0, a3_1, a3_2, inL2, beq_self_eq_true, o_app, Bool.true_eq_false, k_0, k_1, k_2, k_3, Nat.reduceAdd, Nat.reduceSub, Int.reduceBEq, Int.reduceLT, Int.reduceLE, Int.reduceAdd, Int.reduceSub, Int.reduceNeg, blsOf_map, all_map, e]
theorem joinC_nil : ∀ {l : List (List Nat)}, joinC [] l = l.flatten
  | [] => rfl
  | [x] => by simp [joinC]
  | x :: y :: r => by simp [joinC, joinC_nil (l := y :: r)]
theorem wrs_flat : ∀ {l : List Tk}, wrs l = (l.map Tk.wr).flatten
  | [] => rfl
  | t :: l => by simp [wrs, wrs_flat (l := l)]
theorem wrs_append {a b : List Tk} : wrs (a ++ b) = wrs a ++ wrs b := by simp [wrs_flat]
theorem join_ok {l : List Tk} (hl : (wrs l).length ≤ LIM) : mthD .join (.str []) [.lst (l.map fun t => .str t.wr)] = some (.str (wrs l)) := by
  simp only [mthD, strsOf_map, Option.bind_some, List.length_nil, Nat.zero_mul, Nat.add_zero, joinC_nil]
  rw [if_pos (by rw [wrs_flat, List.length_flatten] at hl; exact hl), wrs_flat]
theorem c_written {l : List Tk} (h : ∀ t ∈ l, t.wr.length ≤ 1000) (hl : (wrs l).length ≤ LIM) : call G wf (n + 2) "written" [.lst (l.map Tk.d)] m = .ok (.str (wrs l)) m := by
  rw [call_eq G_written rfl]
  simp only [f_written, exs, ex, ev, evs, evr, rdV, getS, setS, b_ok, b_st, b_nx, b_rt, b_brk, b_cnt, b_calm, b_of, fin_ret, fin_nx, optV, clr, clrs, g_nm, g_tp, g_nil, g_cons, List.map_cons, List.map_nil, List.replicate, List.cons_append, List.nil_append, List.length_cons, List.length_nil, isObj, isLst, ownV, retS, List.any_cons, List.any_nil, Bool.or_false, Bool.false_eq_true, if_false, if_true, Option.map_some, Option.bind_some, cvOf, chg, Bool.not_true, Bool.not_false, decide_true, decide_false, reduceCtorEq, Bool.true_and, Bool.false_and, Bool.true_or, Bool.false_or, d_non, d_bl, d_int, d_str, d_tup, d_lst, d_fro, t_str, t_tup, t_lst, t_int, t_intb, t_blb, t_strt, t_strl, t_tups, t_tupl, t_lstt, t_lsts, q_eqs, q_nes, q_eqi, q_nei, q_lt, q_le, q_gt, q_ge, q_les, q_lts, q_in, q_nin, q_isn, q_ist, q_isl, q_iss, q_isi, q_sn, q_st, q_sl, q_ss, q_si, f_lens, f_lenl, f_lent, f_lenf, f_all, f_any, f_int, f_max, f_min, f_lstl, f_lstt, f_tupl, f_tupt, o_add, o_sub, o_adds, o_addl, o_addt, x_l, x_t, x_f, x_s, z_l, z_t, z_s, i_l, i_t, i_f, i_i, i_s, n_ss, n_l, n_t, m_f1, m_f2, m_j, a2_0, a2_1, a3_0, a3_1, a3_2, inL2, beq_self_eq_true, o_app, Bool.true_eq_false, k_0, k_1, k_2, k_3, Nat.reduceAdd, Nat.reduceSub, Int.reduceBEq, Int.reduceLT, Int.reduceLE, Int.reduceAdd, Int.reduceSub, Int.reduceNeg]
  rw [lcGo_mapf (g := fun t : Tk => .str t.wr) (fun t ht => by simp only [exs, ex, ev, evs, evr, rdV, getS, setS, b_ok, b_st, b_nx, b_rt, b_brk, b_cnt, b_calm, b_of, fin_ret, fin_nx, optV, clr, clrs, g_nm, g_tp, g_nil, g_cons, List.map_cons, List.map_nil, List.replicate, List.cons_append, List.nil_append, List.length_cons, List.length_nil, isObj, isLst, ownV, retS, List.any_cons, List.any_nil, Bool.or_false, Bool.false_eq_true, if_false, if_true, Option.map_some, Option.bind_some, cvOf, chg, Bool.not_true, Bool.not_false, decide_true, decide_false, reduceCtorEq, Bool.true_and, Bool.false_and, Bool.true_or, Bool.false_or, d_non, d_bl, d_int, d_str, d_tup, d_lst, d_fro, t_str, t_tup, t_lst, t_int, t_intb, t_blb, t_strt, t_strl, t_tups, t_tupl, t_lstt, t_lsts, q_eqs, q_nes, q_eqi, q_nei, q_lt, q_le, q_gt, q_ge, q_les, q_lts, q_in, q_nin, q_isn, q_ist, q_isl, q_iss, q_isi, q_sn, q_st, q_sl, q_ss, q_si, f_lens, f_lenl, f_lent, f_lenf, f_all, f_any, f_int, f_max, f_min, f_lstl, f_lstt, f_tupl, f_tupt, o_add, o_sub, o_adds, o_addl, o_addt, x_l, x_t, x_f, x_s, z_l, z_t, z_s, i_l, i_t, i_f, i_i, i_s, n_ss, n_l, n_t, m_f1, m_f2, m_j, a2_0, a2_1, a3_0, a3_1, a3_2, inL2, beq_self_eq_true, o_app, Bool.true_eq_false, k_0, k_1, k_2, k_3, Nat.reduceAdd, Nat.reduceSub, Int.reduceBEq, Int.reduceLT, Int.reduceLE, Int.reduceAdd, Int.reduceSub, Int.reduceNeg, c_written_token (h t ht)])]
  simp only [exs, ex, ev, evs, evr, rdV, getS, setS, b_ok, b_st, b_nx, b_rt, b_brk, b_cnt, b_calm, b_of, fin_ret, fin_nx, optV, clr, clrs, g_nm, g_tp, g_nil, g_cons, List.map_cons, List.map_nil, List.replicate, List.cons_append, List.nil_append, List.length_cons, List.length_nil, isObj, isLst, ownV, retS, List.any_cons, List.any_nil, Bool.or_false, Bool.false_eq_true, if_false, if_true, Option.map_some, Option.bind_some, cvOf, chg, Bool.not_true, Bool.not_false, decide_true, decide_false, reduceCtorEq, Bool.true_and, Bool.false_and, Bool.true_or, Bool.false_or, d_non, d_bl, d_int, d_str, d_tup, d_lst, d_fro, t_str, t_tup, t_lst, t_int, t_intb, t_blb, t_strt, t_strl, t_tups, t_tupl, t_lstt, t_lsts, q_eqs, q_nes, q_eqi, q_nei, q_lt, q_le, q_gt, q_ge, q_les, q_lts, q_in, q_nin, q_isn, q_ist, q_isl, q_iss, q_isi, q_sn, q_st, q_sl, q_ss, q_si, f_lens, f_lenl, f_lent, f_lenf, f_all, f_any, f_int, f_max, f_min, f_lstl, f_lstt, f_tupl, f_tupt, o_add, o_sub, o_adds, o_addl, o_addt, x_l, x_t, x_f, x_s, z_l, z_t, z_s, i_l, i_t, i_f, i_i, i_s, n_ss, n_l, n_t, m_f1, m_f2, m_j, a2_0, a2_1, a3_0, a3_1, a3_2, inL2, beq_self_eq_true, o_app, Bool.true_eq_false, k_0, k_1, k_2, k_3, Nat.reduceAdd, Nat.reduceSub, Int.reduceBEq, Int.reduceLT, Int.reduceLE, Int.reduceAdd, Int.reduceSub, Int.reduceNeg, join_ok hl]
theorem c_text_of {l : List Tk} (h : ∀ t ∈ l, t.ok = true) (h2 : ∀ t ∈ l, t.wr.length ≤ 1000) (hl : (wrs l).length ≤ LIM) : call G wf (n + 4) "text_of" [.lst (l.map Tk.d)] m = .ok (.str (wrs l)) m := by
  rw [call_eq G_text_of rfl]
  simp only [f_text_of, exs, ex, ev, evs, evr, rdV, getS, setS, b_ok, b_st, b_nx, b_rt, b_brk, b_cnt, b_calm, b_of, fin_ret, fin_nx, optV, clr, clrs, g_nm, g_tp, g_nil, g_cons, List.map_cons, List.map_nil, List.replicate, List.cons_append, List.nil_append, List.length_cons, List.length_nil, isObj, isLst, ownV, retS, List.any_cons, List.any_nil, Bool.or_false, Bool.false_eq_true, if_false, if_true, Option.map_some, Option.bind_some, cvOf, chg, Bool.not_true, Bool.not_false, decide_true, decide_false, reduceCtorEq, Bool.true_and, Bool.false_and, Bool.true_or, Bool.false_or, d_non, d_bl, d_int, d_str, d_tup, d_lst, d_fro, t_str, t_tup, t_lst, t_int, t_intb, t_blb, t_strt, t_strl, t_tups, t_tupl, t_lstt, t_lsts, q_eqs, q_nes, q_eqi, q_nei, q_lt, q_le, q_gt, q_ge, q_les, q_lts, q_in, q_nin, q_isn, q_ist, q_isl, q_iss, q_isi, q_sn, q_st, q_sl, q_ss, q_si, f_lens, f_lenl, f_lent, f_lenf, f_all, f_any, f_int, f_max, f_min, f_lstl, f_lstt, f_tupl, f_tupt, o_add, o_sub, o_adds, o_addl, o_addt, x_l, x_t, x_f, x_s, z_l, z_t, z_s, i_l, i_t, i_f, i_i, i_s, n_ss, n_l, n_t, m_f1, m_f2, m_j, a2_0, a2_1, a3_0, a3_1, a3_2, inL2, beq_self_eq_true, o_app, Bool.true_eq_false, k_0, k_1, k_2, k_3, Nat.reduceAdd, Nat.reduceSub, Int.reduceBEq, Int.reduceLT, Int.reduceLE, Int.reduceAdd, Int.reduceSub, Int.reduceNeg, c_check_tokens h, c_written h2 hl]
def ends : Nat → List Tk → List (Nat × Nat)
  | _, [] => []
  | p, t :: r => (p, p + t.wr.length) :: ends (p + t.wr.length) r
theorem piecesD_eq : ∀ {l : List Tk} {p : Nat}, piecesD p l = ((l.zip (ends p l)).map fun q : Tk × Nat × Nat => D.tup [q.1.d, .int (q.2.1 : Nat), .int (q.2.2 : Nat)])
  | [], p => rfl
  | t :: l, p => by simp [piecesD, ends, piecesD_eq (l := l)]
theorem ends_len : ∀ {l : List Tk} {p : Nat}, (ends p l).length = l.length
  | [], p => rfl
  | t :: l, p => by simp [ends, ends_len (l := l)]
theorem c_tokens_of {l : List Tk} (h : Good l) (hw : l.length < wf) (hl : l.length ≤ LIM) : call G wf (n + 5) "tokens_of" [.str (wrs l)] m = .ok (.lst (l.map Tk.d)) m := by
  rw [call_eq G_tokens_of rfl]
  simp only [f_tokens_of, exs, ex, ev, evs, evr, rdV, getS, setS, b_ok, b_st, b_nx, b_rt, b_brk, b_cnt, b_calm, b_of, fin_ret, fin_nx, optV, clr, clrs, g_nm, g_tp, g_nil, g_cons, List.map_cons, List.map_nil, List.replicate, List.cons_append, List.nil_append, List.length_cons, List.length_nil, isObj, isLst, ownV, retS, List.any_cons, List.any_nil, Bool.or_false, Bool.false_eq_true, if_false, if_true, Option.map_some, Option.bind_some, cvOf, chg, Bool.not_true, Bool.not_false, decide_true, decide_false, reduceCtorEq, Bool.true_and, Bool.false_and, Bool.true_or, Bool.false_or, d_non, d_bl, d_int, d_str, d_tup, d_lst, d_fro, t_str, t_tup, t_lst, t_int, t_intb, t_blb, t_strt, t_strl, t_tups, t_tupl, t_lstt, t_lsts, q_eqs, q_nes, q_eqi, q_nei, q_lt, q_le, q_gt, q_ge, q_les, q_lts, q_in, q_nin, q_isn, q_ist, q_isl, q_iss, q_isi, q_sn, q_st, q_sl, q_ss, q_si, f_lens, f_lenl, f_lent, f_lenf, f_all, f_any, f_int, f_max, f_min, f_lstl, f_lstt, f_tupl, f_tupt, o_add, o_sub, o_adds, o_addl, o_addt, x_l, x_t, x_f, x_s, z_l, z_t, z_s, i_l, i_t, i_f, i_i, i_s, n_ss, n_l, n_t, m_f1, m_f2, m_j, a2_0, a2_1, a3_0, a3_1, a3_2, inL2, beq_self_eq_true, o_app, Bool.true_eq_false, k_0, k_1, k_2, k_3, Nat.reduceAdd, Nat.reduceSub, Int.reduceBEq, Int.reduceLT, Int.reduceLE, Int.reduceAdd, Int.reduceSub, Int.reduceNeg, c_checked h hw hl, piecesD_eq]
  rw [lcGo_mapf (g := fun q : Tk × Nat × Nat => q.1.d) (fun q _ => by simp only [exs, ex, ev, evs, evr, rdV, getS, setS, b_ok, b_st, b_nx, b_rt, b_brk, b_cnt, b_calm, b_of, fin_ret, fin_nx, optV, clr, clrs, g_nm, g_tp, g_nil, g_cons, List.map_cons, List.map_nil, List.replicate, List.cons_append, List.nil_append, List.length_cons, List.length_nil, isObj, isLst, ownV, retS, List.any_cons, List.any_nil, Bool.or_false, Bool.false_eq_true, if_false, if_true, Option.map_some, Option.bind_some, cvOf, chg, Bool.not_true, Bool.not_false, decide_true, decide_false, reduceCtorEq, Bool.true_and, Bool.false_and, Bool.true_or, Bool.false_or, d_non, d_bl, d_int, d_str, d_tup, d_lst, d_fro, t_str, t_tup, t_lst, t_int, t_intb, t_blb, t_strt, t_strl, t_tups, t_tupl, t_lstt, t_lsts, q_eqs, q_nes, q_eqi, q_nei, q_lt, q_le, q_gt, q_ge, q_les, q_lts, q_in, q_nin, q_isn, q_ist, q_isl, q_iss, q_isi, q_sn, q_st, q_sl, q_ss, q_si, f_lens, f_lenl, f_lent, f_lenf, f_all, f_any, f_int, f_max, f_min, f_lstl, f_lstt, f_tupl, f_tupt, o_add, o_sub, o_adds, o_addl, o_addt, x_l, x_t, x_f, x_s, z_l, z_t, z_s, i_l, i_t, i_f, i_i, i_s, n_ss, n_l, n_t, m_f1, m_f2, m_j, a2_0, a2_1, a3_0, a3_1, a3_2, inL2, beq_self_eq_true, o_app, Bool.true_eq_false, k_0, k_1, k_2, k_3, Nat.reduceAdd, Nat.reduceSub, Int.reduceBEq, Int.reduceLT, Int.reduceLE, Int.reduceAdd, Int.reduceSub, Int.reduceNeg])]
  have e : (l.zip (ends 0 l)).map (fun q => q.1.d) = l.map Tk.d := by
    have := congrArg (List.map Tk.d) (List.map_fst_zip (l₁ := l) (l₂ := ends 0 l) (by rw [ends_len]; exact Nat.le_refl _))
    rw [← this, List.map_map]
    rfl
  simp only [exs, ex, ev, evs, evr, rdV, getS, setS, b_ok, b_st, b_nx, b_rt, b_brk, b_cnt, b_calm, b_of, fin_ret, fin_nx, optV, clr, clrs, g_nm, g_tp, g_nil, g_cons, List.map_cons, List.map_nil, List.replicate, List.cons_append, List.nil_append, List.length_cons, List.length_nil, isObj, isLst, ownV, retS, List.any_cons, List.any_nil, Bool.or_false, Bool.false_eq_true, if_false, if_true, Option.map_some, Option.bind_some, cvOf, chg, Bool.not_true, Bool.not_false, decide_true, decide_false, reduceCtorEq, Bool.true_and, Bool.false_and, Bool.true_or, Bool.false_or, d_non, d_bl, d_int, d_str, d_tup, d_lst, d_fro, t_str, t_tup, t_lst, t_int, t_intb, t_blb, t_strt, t_strl, t_tups, t_tupl, t_lstt, t_lsts, q_eqs, q_nes, q_eqi, q_nei, q_lt, q_le, q_gt, q_ge, q_les, q_lts, q_in, q_nin, q_isn, q_ist, q_isl, q_iss, q_isi, q_sn, q_st, q_sl, q_ss, q_si, f_lens, f_lenl, f_lent, f_lenf, f_all, f_any, f_int, f_max, f_min, f_lstl, f_lstt, f_tupl, f_tupt, o_add, o_sub, o_adds, o_addl, o_addt, x_l, x_t, x_f, x_s, z_l, z_t, z_s, i_l, i_t, i_f, i_i, i_s, n_ss, n_l, n_t, m_f1, m_f2, m_j, a2_0, a2_1, a3_0, a3_1, a3_2, inL2, beq_self_eq_true, o_app, Bool.true_eq_false, k_0, k_1, k_2, k_3, Nat.reduceAdd, Nat.reduceSub, Int.reduceBEq, Int.reduceLT, Int.reduceLE, Int.reduceAdd, Int.reduceSub, Int.reduceNeg, e]
theorem c_places_of {l : List Tk} (h : Good l) (hw : l.length < wf) (hl : l.length ≤ LIM) : call G wf (n + 5) "places_of" [.str (wrs l)] m = .ok (.lst ((ends 0 l).map fun q => .tup [.int (q.1 : Nat), .int (q.2 : Nat)])) m := by
  rw [call_eq G_places_of rfl]
  simp only [f_places_of, exs, ex, ev, evs, evr, rdV, getS, setS, b_ok, b_st, b_nx, b_rt, b_brk, b_cnt, b_calm, b_of, fin_ret, fin_nx, optV, clr, clrs, g_nm, g_tp, g_nil, g_cons, List.map_cons, List.map_nil, List.replicate, List.cons_append, List.nil_append, List.length_cons, List.length_nil, isObj, isLst, ownV, retS, List.any_cons, List.any_nil, Bool.or_false, Bool.false_eq_true, if_false, if_true, Option.map_some, Option.bind_some, cvOf, chg, Bool.not_true, Bool.not_false, decide_true, decide_false, reduceCtorEq, Bool.true_and, Bool.false_and, Bool.true_or, Bool.false_or, d_non, d_bl, d_int, d_str, d_tup, d_lst, d_fro, t_str, t_tup, t_lst, t_int, t_intb, t_blb, t_strt, t_strl, t_tups, t_tupl, t_lstt, t_lsts, q_eqs, q_nes, q_eqi, q_nei, q_lt, q_le, q_gt, q_ge, q_les, q_lts, q_in, q_nin, q_isn, q_ist, q_isl, q_iss, q_isi, q_sn, q_st, q_sl, q_ss, q_si, f_lens, f_lenl, f_lent, f_lenf, f_all, f_any, f_int, f_max, f_min, f_lstl, f_lstt, f_tupl, f_tupt, o_add, o_sub, o_adds, o_addl, o_addt, x_l, x_t, x_f, x_s, z_l, z_t, z_s, i_l, i_t, i_f, i_i, i_s, n_ss, n_l, n_t, m_f1, m_f2, m_j, a2_0, a2_1, a3_0, a3_1, a3_2, inL2, beq_self_eq_true, o_app, Bool.true_eq_false, k_0, k_1, k_2, k_3, Nat.reduceAdd, Nat.reduceSub, Int.reduceBEq, Int.reduceLT, Int.reduceLE, Int.reduceAdd, Int.reduceSub, Int.reduceNeg, c_checked h hw hl, piecesD_eq]
  rw [lcGo_mapf (g := fun q : Tk × Nat × Nat => .tup [.int (q.2.1 : Nat), .int (q.2.2 : Nat)]) (fun q _ => by simp only [exs, ex, ev, evs, evr, rdV, getS, setS, b_ok, b_st, b_nx, b_rt, b_brk, b_cnt, b_calm, b_of, fin_ret, fin_nx, optV, clr, clrs, g_nm, g_tp, g_nil, g_cons, List.map_cons, List.map_nil, List.replicate, List.cons_append, List.nil_append, List.length_cons, List.length_nil, isObj, isLst, ownV, retS, List.any_cons, List.any_nil, Bool.or_false, Bool.false_eq_true, if_false, if_true, Option.map_some, Option.bind_some, cvOf, chg, Bool.not_true, Bool.not_false, decide_true, decide_false, reduceCtorEq, Bool.true_and, Bool.false_and, Bool.true_or, Bool.false_or, d_non, d_bl, d_int, d_str, d_tup, d_lst, d_fro, t_str, t_tup, t_lst, t_int, t_intb, t_blb, t_strt, t_strl, t_tups, t_tupl, t_lstt, t_lsts, q_eqs, q_nes, q_eqi, q_nei, q_lt, q_le, q_gt, q_ge, q_les, q_lts, q_in, q_nin, q_isn, q_ist, q_isl, q_iss, q_isi, q_sn, q_st, q_sl, q_ss, q_si, f_lens, f_lenl, f_lent, f_lenf, f_all, f_any, f_int, f_max, f_min, f_lstl, f_lstt, f_tupl, f_tupt, o_add, o_sub, o_adds, o_addl, o_addt, x_l, x_t, x_f, x_s, z_l, z_t, z_s, i_l, i_t, i_f, i_i, i_s, n_ss, n_l, n_t, m_f1, m_f2, m_j, a2_0, a2_1, a3_0, a3_1, a3_2, inL2, beq_self_eq_true, o_app, Bool.true_eq_false, k_0, k_1, k_2, k_3, Nat.reduceAdd, Nat.reduceSub, Int.reduceBEq, Int.reduceLT, Int.reduceLE, Int.reduceAdd, Int.reduceSub, Int.reduceNeg])]
  have e : (l.zip (ends 0 l)).map (fun q : Tk × Nat × Nat => D.tup [.int (q.2.1 : Nat), .int (q.2.2 : Nat)]) = (ends 0 l).map fun q => .tup [.int (q.1 : Nat), .int (q.2 : Nat)] := by
    have := congrArg (List.map fun q : Nat × Nat => D.tup [.int (q.1 : Nat), .int (q.2 : Nat)]) (List.map_snd_zip (l₁ := l) (l₂ := ends 0 l) (by rw [ends_len]; exact Nat.le_refl _))
    rw [← this, List.map_map]
    rfl
  simp only [exs, ex, ev, evs, evr, rdV, getS, setS, b_ok, b_st, b_nx, b_rt, b_brk, b_cnt, b_calm, b_of, fin_ret, fin_nx, optV, clr, clrs, g_nm, g_tp, g_nil, g_cons, List.map_cons, List.map_nil, List.replicate, List.cons_append, List.nil_append, List.length_cons, List.length_nil, isObj, isLst, ownV, retS, List.any_cons, List.any_nil, Bool.or_false, Bool.false_eq_true, if_false, if_true, Option.map_some, Option.bind_some, cvOf, chg, Bool.not_true, Bool.not_false, decide_true, decide_false, reduceCtorEq, Bool.true_and, Bool.false_and, Bool.true_or, Bool.false_or, d_non, d_bl, d_int, d_str, d_tup, d_lst, d_fro, t_str, t_tup, t_lst, t_int, t_intb, t_blb, t_strt, t_strl, t_tups, t_tupl, t_lstt, t_lsts, q_eqs, q_nes, q_eqi, q_nei, q_lt, q_le, q_gt, q_ge, q_les, q_lts, q_in, q_nin, q_isn, q_ist, q_isl, q_iss, q_isi, q_sn, q_st, q_sl, q_ss, q_si, f_lens, f_lenl, f_lent, f_lenf, f_all, f_any, f_int, f_max, f_min, f_lstl, f_lstt, f_tupl, f_tupt, o_add, o_sub, o_adds, o_addl, o_addt, x_l, x_t, x_f, x_s, z_l, z_t, z_s, i_l, i_t, i_f, i_i, i_s, n_ss, n_l, n_t, m_f1, m_f2, m_j, a2_0, a2_1, a3_0, a3_1, a3_2, inL2, beq_self_eq_true, o_app, Bool.true_eq_false, k_0, k_1, k_2, k_3, Nat.reduceAdd, Nat.reduceSub, Int.reduceBEq, Int.reduceLT, Int.reduceLE, Int.reduceAdd, Int.reduceSub, Int.reduceNeg, e]
end Lt

set_option linter.all false
set_option maxRecDepth 100000
set_option maxHeartbeats 2000000
namespace Lt
variable {wf n : Nat} {m : Mem}
/-! ### draws -/
theorem r_lit {v : Cv} {sl : Sl} {d : D} : rdV sl (.lit d) m (ev v (.lit d) sl m) = .ok d m := by simp only [rdV, ev]
abbrev BIG : Int := 1329227995784915872903807060280344576
theorem lg {x : Int} (h0 : 0 ≤ x) (h : x < BIG) : x.natAbs.log2 < 120 := by
  by_cases hz : x.natAbs = 0
  · rw [hz]; decide
  · rw [Nat.log2_lt hz]
    have : (2 : Nat) ^ 120 = 1329227995784915872903807060280344576 := by decide
    rw [this]
    unfold BIG at h
    omega
theorem mul_ok {a b : Int} (ha : 0 ≤ a) (ha2 : a < BIG) (hb : 0 ≤ b) (hb2 : b < BIG) : binD .mul (.int a) (.int b) = some (.int (a * b)) := by
  have h1 := lg ha ha2
  have h2 := lg hb hb2
  simp only [binD]
  rw [if_pos (by omega)]
theorem pow_ok {a : Int} (k : Nat) (ha : 0 ≤ a) (ha2 : a < BIG) (hk : k ≤ 1000) : binD .pow (.int a) (.int (k : Nat)) = some (.int (a ^ k)) := by
  have h1 := lg ha ha2
  simp only [binD]
  have e : (2 : Int) ^ 27 = 134217728 := by decide
  rw [if_pos ⟨by omega, by
    rw [e, ← Int.natCast_mul]
    have : (a.natAbs.log2 + 1) * k ≤ 120 * 1000 := Nat.mul_le_mul (by omega) hk
    omega⟩]
  simp
theorem mod_ok {a b : Int} (hb : 0 < b) : binD .mod (.int a) (.int b) = some (.int (a % b)) := by
  simp only [binD]
  rw [if_pos hb]
theorem div_ok {a b : Int} (hb : 0 < b) (hb2 : b < BIG) : binD .fdiv (.int a) (.int b) = some (.int (a / b)) := by
  have h1 := lg (by omega) hb2
  simp only [binD]
  rw [if_pos ⟨hb, by omega⟩]
theorem c_cell {ns : List Int} {k : Nat} : ∃ z : Int, call G wf (n + 1) "_law_cell_at" [.fro (ns.map .int), .int (k : Nat)] m = .ok (.int z) m := by
  rw [call_eq G__law_cell_at rfl]
  by_cases h : k < ns.length
  · have h2 : ((k : Nat) : Int) < (((ns.map D.int).length : Nat) : Int) := by simp; exact h
    have h3 : atD (ns.map D.int) (k : Nat) = some (.int ns[k]) := atD_nat (by simp [h])
    exact ⟨ns[k], by simp only [f__law_cell_at, exs, ex, ev, evs, evr, rdV, getS, setS, b_ok, b_st, b_nx, b_rt, b_brk, b_cnt, b_calm, b_of, fin_ret, fin_nx, optV, clr, clrs, g_nm, g_tp, g_nil, g_cons, List.map_cons, List.map_nil, List.replicate, List.cons_append, List.nil_append, List.length_cons, List.length_nil, isObj, isLst, ownV, retS, List.any_cons, List.any_nil, Bool.or_false, Bool.false_eq_true, if_false, if_true, Option.map_some, Option.bind_some, cvOf, chg, Bool.not_true, Bool.not_false, decide_true, decide_false, reduceCtorEq, Bool.true_and, Bool.false_and, Bool.true_or, Bool.false_or, d_non, d_bl, d_int, d_str, d_tup, d_lst, d_fro, t_str, t_tup, t_lst, t_int, t_intb, t_blb, t_strt, t_strl, t_tups, t_tupl, t_lstt, t_lsts, q_eqs, q_nes, q_eqi, q_nei, q_lt, q_le, q_gt, q_ge, q_les, q_lts, q_in, q_nin, q_isn, q_ist, q_isl, q_iss, q_isi, q_sn, q_st, q_sl, q_ss, q_si, f_lens, f_lenl, f_lent, f_lenf, f_all, f_any, f_int, f_max, f_min, f_lstl, f_lstt, f_tupl, f_tupt, o_add, o_sub, o_adds, o_addl, o_addt, x_l, x_t, x_f, x_s, z_l, z_t, z_s, i_l, i_t, i_f, i_i, i_s, n_ss, n_l, n_t, m_f1, m_f2, m_j, a2_0, a2_1, a3_0, a3_1, a3_2, inL2, beq_self_eq_true, o_app, Bool.true_eq_false, k_0, k_1, k_2, k_3, Nat.reduceAdd, Nat.reduceSub, Int.reduceBEq, Int.reduceLT, Int.reduceLE, Int.reduceAdd, Int.reduceSub, Int.reduceNeg, decide_eq_true h2, h3]⟩
  · have h2 : ¬ ((k : Nat) : Int) < (((ns.map D.int).length : Nat) : Int) := by simp; omega
    exact ⟨0, by simp only [f__law_cell_at, exs, ex, ev, evs, evr, rdV, getS, setS, b_ok, b_st, b_nx, b_rt, b_brk, b_cnt, b_calm, b_of, fin_ret, fin_nx, optV, clr, clrs, g_nm, g_tp, g_nil, g_cons, List.map_cons, List.map_nil, List.replicate, List.cons_append, List.nil_append, List.length_cons, List.length_nil, isObj, isLst, ownV, retS, List.any_cons, List.any_nil, Bool.or_false, Bool.false_eq_true, if_false, if_true, Option.map_some, Option.bind_some, cvOf, chg, Bool.not_true, Bool.not_false, decide_true, decide_false, reduceCtorEq, Bool.true_and, Bool.false_and, Bool.true_or, Bool.false_or, d_non, d_bl, d_int, d_str, d_tup, d_lst, d_fro, t_str, t_tup, t_lst, t_int, t_intb, t_blb, t_strt, t_strl, t_tups, t_tupl, t_lstt, t_lsts, q_eqs, q_nes, q_eqi, q_nei, q_lt, q_le, q_gt, q_ge, q_les, q_lts, q_in, q_nin, q_isn, q_ist, q_isl, q_iss, q_isi, q_sn, q_st, q_sl, q_ss, q_si, f_lens, f_lenl, f_lent, f_lenf, f_all, f_any, f_int, f_max, f_min, f_lstl, f_lstt, f_tupl, f_tupt, o_add, o_sub, o_adds, o_addl, o_addt, x_l, x_t, x_f, x_s, z_l, z_t, z_s, i_l, i_t, i_f, i_i, i_s, n_ss, n_l, n_t, m_f1, m_f2, m_j, a2_0, a2_1, a3_0, a3_1, a3_2, inL2, beq_self_eq_true, o_app, Bool.true_eq_false, k_0, k_1, k_2, k_3, Nat.reduceAdd, Nat.reduceSub, Int.reduceBEq, Int.reduceLT, Int.reduceLE, Int.reduceAdd, Int.reduceSub, Int.reduceNeg, decide_eq_false h2]⟩
/-- a source -/
abbrev src (a b c : Int) : D := .lst [.int a, .int b, .int c]
structure SrcOk (a b c : Int) : Prop where
  a0 : 0 ≤ a
  b0 : 0 ≤ b
  b1 : b < 162259276829213363391578010388127
  c0 : 0 ≤ c
  c1 : c < 1000000
abbrev M1 : Int := 162259276829213363391578010288127
abbrev M2 : Int := 618970019642690137449562111
theorem c_source {z : Int} {k : Nat} (hk : k ≤ 6) : ∃ a b, SrcOk a b 0 ∧ call G wf (n + 1) "_law_source" [.int z, .int (k : Nat)] m = .ok (src a b 0) m := by
  rw [call_eq G__law_source rfl]
  have e1 : binD .pow (.int 10) (.int 18) = some (.int (10 ^ 18)) := pow_ok 18 (by decide) (by decide) (by decide)
  have e2 : binD .mod (.int z) (.int 162259276829213363391578010288127) = some (.int (z % M1)) := mod_ok (by decide)
  have e3 : binD .mul (.int 7919) (.int ((k : Nat) + 1)) = some (.int (7919 * ((k : Nat) + 1))) := mul_ok (by decide) (by decide) (by omega) (by unfold BIG; omega)
  have h1 := Int.emod_nonneg z (show M1 ≠ 0 by decide)
  have h2 := Int.emod_lt_of_pos z (show 0 < M1 by decide)
  refine ⟨if z - 10 ^ 18 > 0 then z - 10 ^ 18 else 0, z % M1 + 7919 * ((k : Nat) + 1), ⟨?_, by omega, by unfold M1 at h2 ⊢; omega, by decide, by decide⟩, ?_⟩
  · split <;> omega
  · simp only [f__law_source, exs, ex, ev, evs, evr, rdV, getS, setS, b_ok, b_st, b_nx, b_rt, b_brk, b_cnt, b_calm, b_of, fin_ret, fin_nx, optV, clr, clrs, g_nm, g_tp, g_nil, g_cons, List.map_cons, List.map_nil, List.replicate, List.cons_append, List.nil_append, List.length_cons, List.length_nil, isObj, isLst, ownV, retS, List.any_cons, List.any_nil, Bool.or_false, Bool.false_eq_true, if_false, if_true, Option.map_some, Option.bind_some, cvOf, chg, Bool.not_true, Bool.not_false, decide_true, decide_false, reduceCtorEq, Bool.true_and, Bool.false_and, Bool.true_or, Bool.false_or, d_non, d_bl, d_int, d_str, d_tup, d_lst, d_fro, t_str, t_tup, t_lst, t_int, t_intb, t_blb, t_strt, t_strl, t_tups, t_tupl, t_lstt, t_lsts, q_eqs, q_nes, q_eqi, q_nei, q_lt, q_le, q_gt, q_ge, q_les, q_lts, q_in, q_nin, q_isn, q_ist, q_isl, q_iss, q_isi, q_sn, q_st, q_sl, q_ss, q_si, f_lens, f_lenl, f_lent, f_lenf, f_all, f_any, f_int, f_max, f_min, f_lstl, f_lstt, f_tupl, f_tupt, o_add, o_sub, o_adds, o_addl, o_addt, x_l, x_t, x_f, x_s, z_l, z_t, z_s, i_l, i_t, i_f, i_i, i_s, n_ss, n_l, n_t, m_f1, m_f2, m_j, a2_0, a2_1, a3_0, a3_1, a3_2, inL2, beq_self_eq_true, o_app, Bool.true_eq_false, k_0, k_1, k_2, k_3, Nat.reduceAdd, Nat.reduceSub, Int.reduceBEq, Int.reduceLT, Int.reduceLE, Int.reduceAdd, Int.reduceSub, Int.reduceNeg, e1, e2, e3]
theorem s3_0 {a b c d : D} : setD (.lst [a, b, c]) (.int 0) d = some (.lst [d, b, c]) := rfl
theorem s3_2 {a b c d : D} : setD (.lst [a, b, c]) (.int 2) d = some (.lst [a, b, d]) := rfl
theorem d_ref {j : Nat} {d : D} (h : m[j]? = some d) : deref m (.ref j) = d := by simp only [deref, h]
theorem draw1 {j : Nat} {a b c : Int} {k : Int} (hj : m[j]? = some (src a b c)) (h : SrcOk a b c) (hk : 1 ≤ k) (hk2 : k ≤ 1000) (ha : 1 < a) :
    call G wf (n + 1) "_law_draw" [.ref j, .int k] m = .ok (.int (a % k)) (m.set j (src (a / k) b c)) := by
  have hjl : j < m.length := (List.getElem?_eq_some_iff.mp hj).1
  obtain ⟨a0, b0, b1, c0, c1⟩ := h
  have e1 : binD .mod (.int a) (.int k) = some (.int (a % k)) := mod_ok (by omega)
  have e2 : binD .fdiv (.int a) (.int k) = some (.int (a / k)) := div_ok (by omega) (by unfold BIG; omega)
  rw [call_eq G__law_draw rfl]
  show fin (exs (cvOf G wf n) f__law_draw.body [.val (.ref j), .val (.int k), .no, .no] m) = _
  simp only [f__law_draw]
  rw [ex_ret (.int (a % k)) [.val (.ref j), .val (.int k), .no, .val (.int (a % k))] (m.set j (src (a / k) b c)) (by simp only [exs, ex, ev, evs, evr, rdV, getS, setS, b_ok, b_st, b_nx, b_rt, b_brk, b_cnt, b_calm, b_of, fin_ret, fin_nx, optV, clr, clrs, g_nm, g_tp, g_nil, g_cons, List.map_cons, List.map_nil, List.replicate, List.cons_append, List.nil_append, List.length_cons, List.length_nil, isObj, isLst, ownV, retS, List.any_cons, List.any_nil, Bool.or_false, Bool.false_eq_true, if_false, if_true, Option.map_some, Option.bind_some, cvOf, chg, Bool.not_true, Bool.not_false, decide_true, decide_false, reduceCtorEq, Bool.true_and, Bool.false_and, Bool.true_or, Bool.false_or, d_non, d_bl, d_int, d_str, d_tup, d_lst, d_fro, t_str, t_tup, t_lst, t_int, t_intb, t_blb, t_strt, t_strl, t_tups, t_tupl, t_lstt, t_lsts, q_eqs, q_nes, q_eqi, q_nei, q_lt, q_le, q_gt, q_ge, q_les, q_lts, q_in, q_nin, q_isn, q_ist, q_isl, q_iss, q_isi, q_sn, q_st, q_sl, q_ss, q_si, f_lens, f_lenl, f_lent, f_lenf, f_all, f_any, f_int, f_max, f_min, f_lstl, f_lstt, f_tupl, f_tupt, o_add, o_sub, o_adds, o_addl, o_addt, x_l, x_t, x_f, x_s, z_l, z_t, z_s, i_l, i_t, i_f, i_i, i_s, n_ss, n_l, n_t, m_f1, m_f2, m_j, a2_0, a2_1, a3_0, a3_1, a3_2, inL2, beq_self_eq_true, o_app, Bool.true_eq_false, k_0, k_1, k_2, k_3, Nat.reduceAdd, Nat.reduceSub, Int.reduceBEq, Int.reduceLT, Int.reduceLE, Int.reduceAdd, Int.reduceSub, Int.reduceNeg, d_ref hj, hj, decide_eq_true ha, e1, e2, s3_0])]
  rfl
theorem draw2 {j : Nat} {a b c : Int} {k : Int} (hj : m[j]? = some (src a b c)) (h : SrcOk a b c) (hk : 1 ≤ k) (hk2 : k ≤ 1000) (ha : ¬ 1 < a) :
    ∃ r, 0 ≤ r ∧ r < k ∧ call G wf (n + 1) "_law_draw" [.ref j, .int k] m = .ok (.int r) (m.set j (src a b (c + 1))) := by
  have hjl : j < m.length := (List.getElem?_eq_some_iff.mp hj).1
  have hs : ∀ X : D, (m.set j X)[j]? = some X := fun X => List.getElem?_set_self hjl
  have ds : ∀ X : D, deref (m.set j X) (.ref j) = X := fun X => d_ref (hs X)
  obtain ⟨a0, b0, b1, c0, c1⟩ := h
  have e3 : binD .mul (.int 1299709) (.int (c + 1)) = some (.int (1299709 * (c + 1))) := mul_ok (by decide) (by decide) (by omega) (by unfold BIG; omega)
  have e4 : binD .pow (.int (b + 1299709 * (c + 1))) (.int 3) = some (.int ((b + 1299709 * (c + 1)) ^ 3)) := pow_ok 3 (by omega) (by unfold BIG; omega) (by decide)
  obtain ⟨x, h1, h2, e5⟩ : ∃ x : Int, 0 ≤ x ∧ x < M1 ∧ binD .mod (.int ((b + 1299709 * (c + 1)) ^ 3)) (.int 162259276829213363391578010288127) = some (.int x) :=
    ⟨_, Int.emod_nonneg _ (by decide), Int.emod_lt_of_pos _ (by decide), mod_ok (by decide)⟩
  have e6 : binD .mul (.int 15485863) (.int (c + 1)) = some (.int (15485863 * (c + 1))) := mul_ok (by decide) (by decide) (by omega) (by unfold BIG; omega)
  have e7 : binD .pow (.int (x + 15485863 * (c + 1))) (.int 5) = some (.int ((x + 15485863 * (c + 1)) ^ 5)) := pow_ok 5 (by omega) (by unfold BIG; unfold M1 at h2; omega) (by decide)
  obtain ⟨y, e8⟩ : ∃ y : Int, binD .mod (.int ((x + 15485863 * (c + 1)) ^ 5)) (.int 618970019642690137449562111) = some (.int y) := ⟨_, mod_ok (by decide)⟩
  obtain ⟨z, e9⟩ : ∃ z : Int, binD .fdiv (.int y) (.int 1048576) = some (.int z) := ⟨_, div_ok (by decide) (by decide)⟩
  have e10 : binD .mod (.int z) (.int k) = some (.int (z % k)) := mod_ok (by omega)
  refine ⟨z % k, Int.emod_nonneg _ (by omega), Int.emod_lt_of_pos _ (by omega), ?_⟩
  have v1 : ev (cvOf G wf n) (.bin .mod (.blt .int [.bin .pow (.bin .add (.idx (.var 0) (.lit (.int 1))) (.bin .mul (.lit (.int 1299709)) (.idx (.var 0) (.lit (.int 2))))) (.lit (.int 3))]) (.lit (.int 162259276829213363391578010288127))) [.val (.ref j), .val (.int k), .no, .no] (m.set j (src a b (c + 1))) = .ok (.int x) (m.set j (src a b (c + 1))) := by
    refine ev_bin (y := .int 162259276829213363391578010288127) (ev_blt1 (ev_bin (x := .int (b + 1299709 * (c + 1))) (y := .int 3) ?_ r_lit e4) rfl) r_lit e5
    show ev _ _ _ _ = _
    simp only [exs, ex, ev, evs, evr, rdV, getS, setS, b_ok, b_st, b_nx, b_rt, b_brk, b_cnt, b_calm, b_of, fin_ret, fin_nx, optV, clr, clrs, g_nm, g_tp, g_nil, g_cons, List.map_cons, List.map_nil, List.replicate, List.cons_append, List.nil_append, List.length_cons, List.length_nil, isObj, isLst, ownV, retS, List.any_cons, List.any_nil, Bool.or_false, Bool.false_eq_true, if_false, if_true, Option.map_some, Option.bind_some, cvOf, chg, Bool.not_true, Bool.not_false, decide_true, decide_false, reduceCtorEq, Bool.true_and, Bool.false_and, Bool.true_or, Bool.false_or, d_non, d_bl, d_int, d_str, d_tup, d_lst, d_fro, t_str, t_tup, t_lst, t_int, t_intb, t_blb, t_strt, t_strl, t_tups, t_tupl, t_lstt, t_lsts, q_eqs, q_nes, q_eqi, q_nei, q_lt, q_le, q_gt, q_ge, q_les, q_lts, q_in, q_nin, q_isn, q_ist, q_isl, q_iss, q_isi, q_sn, q_st, q_sl, q_ss, q_si, f_lens, f_lenl, f_lent, f_lenf, f_all, f_any, f_int, f_max, f_min, f_lstl, f_lstt, f_tupl, f_tupt, o_add, o_sub, o_adds, o_addl, o_addt, x_l, x_t, x_f, x_s, z_l, z_t, z_s, i_l, i_t, i_f, i_i, i_s, n_ss, n_l, n_t, m_f1, m_f2, m_j, a2_0, a2_1, a3_0, a3_1, a3_2, inL2, beq_self_eq_true, o_app, Bool.true_eq_false, k_0, k_1, k_2, k_3, Nat.reduceAdd, Nat.reduceSub, Int.reduceBEq, Int.reduceLT, Int.reduceLE, Int.reduceAdd, Int.reduceSub, Int.reduceNeg, ds, e3]
  have v2 : ev (cvOf G wf n) (.bin .mod (.blt .int [.bin .pow (.bin .add (.var 2) (.bin .mul (.lit (.int 15485863)) (.idx (.var 0) (.lit (.int 2))))) (.lit (.int 5))]) (.lit (.int 618970019642690137449562111))) [.val (.ref j), .val (.int k), .val (.int x), .no] (m.set j (src a b (c + 1))) = .ok (.int y) (m.set j (src a b (c + 1))) := by
    refine ev_bin (y := .int 618970019642690137449562111) (ev_blt1 (ev_bin (x := .int (x + 15485863 * (c + 1))) (y := .int 5) ?_ r_lit e7) rfl) r_lit e8
    show ev _ _ _ _ = _
    simp only [exs, ex, ev, evs, evr, rdV, getS, setS, b_ok, b_st, b_nx, b_rt, b_brk, b_cnt, b_calm, b_of, fin_ret, fin_nx, optV, clr, clrs, g_nm, g_tp, g_nil, g_cons, List.map_cons, List.map_nil, List.replicate, List.cons_append, List.nil_append, List.length_cons, List.length_nil, isObj, isLst, ownV, retS, List.any_cons, List.any_nil, Bool.or_false, Bool.false_eq_true, if_false, if_true, Option.map_some, Option.bind_some, cvOf, chg, Bool.not_true, Bool.not_false, decide_true, decide_false, reduceCtorEq, Bool.true_and, Bool.false_and, Bool.true_or, Bool.false_or, d_non, d_bl, d_int, d_str, d_tup, d_lst, d_fro, t_str, t_tup, t_lst, t_int, t_intb, t_blb, t_strt, t_strl, t_tups, t_tupl, t_lstt, t_lsts, q_eqs, q_nes, q_eqi, q_nei, q_lt, q_le, q_gt, q_ge, q_les, q_lts, q_in, q_nin, q_isn, q_ist, q_isl, q_iss, q_isi, q_sn, q_st, q_sl, q_ss, q_si, f_lens, f_lenl, f_lent, f_lenf, f_all, f_any, f_int, f_max, f_min, f_lstl, f_lstt, f_tupl, f_tupt, o_add, o_sub, o_adds, o_addl, o_addt, x_l, x_t, x_f, x_s, z_l, z_t, z_s, i_l, i_t, i_f, i_i, i_s, n_ss, n_l, n_t, m_f1, m_f2, m_j, a2_0, a2_1, a3_0, a3_1, a3_2, inL2, beq_self_eq_true, o_app, Bool.true_eq_false, k_0, k_1, k_2, k_3, Nat.reduceAdd, Nat.reduceSub, Int.reduceBEq, Int.reduceLT, Int.reduceLE, Int.reduceAdd, Int.reduceSub, Int.reduceNeg, ds, e6]
  rw [call_eq G__law_draw rfl]
  show fin (exs (cvOf G wf n) f__law_draw.body [.val (.ref j), .val (.int k), .no, .no] m) = _
  simp only [f__law_draw]
  rw [ex_step [.val (.ref j), .val (.int k), .no, .no] m (by simp only [exs, ex, ev, evs, evr, rdV, getS, setS, b_ok, b_st, b_nx, b_rt, b_brk, b_cnt, b_calm, b_of, fin_ret, fin_nx, optV, clr, clrs, g_nm, g_tp, g_nil, g_cons, List.map_cons, List.map_nil, List.replicate, List.cons_append, List.nil_append, List.length_cons, List.length_nil, isObj, isLst, ownV, retS, List.any_cons, List.any_nil, Bool.or_false, Bool.false_eq_true, if_false, if_true, Option.map_some, Option.bind_some, cvOf, chg, Bool.not_true, Bool.not_false, decide_true, decide_false, reduceCtorEq, Bool.true_and, Bool.false_and, Bool.true_or, Bool.false_or, d_non, d_bl, d_int, d_str, d_tup, d_lst, d_fro, t_str, t_tup, t_lst, t_int, t_intb, t_blb, t_strt, t_strl, t_tups, t_tupl, t_lstt, t_lsts, q_eqs, q_nes, q_eqi, q_nei, q_lt, q_le, q_gt, q_ge, q_les, q_lts, q_in, q_nin, q_isn, q_ist, q_isl, q_iss, q_isi, q_sn, q_st, q_sl, q_ss, q_si, f_lens, f_lenl, f_lent, f_lenf, f_all, f_any, f_int, f_max, f_min, f_lstl, f_lstt, f_tupl, f_tupt, o_add, o_sub, o_adds, o_addl, o_addt, x_l, x_t, x_f, x_s, z_l, z_t, z_s, i_l, i_t, i_f, i_i, i_s, n_ss, n_l, n_t, m_f1, m_f2, m_j, a2_0, a2_1, a3_0, a3_1, a3_2, inL2, beq_self_eq_true, o_app, Bool.true_eq_false, k_0, k_1, k_2, k_3, Nat.reduceAdd, Nat.reduceSub, Int.reduceBEq, Int.reduceLT, Int.reduceLE, Int.reduceAdd, Int.reduceSub, Int.reduceNeg, d_ref hj, hj, decide_eq_false ha])]
  rw [ex_step [.val (.ref j), .val (.int k), .no, .no] (m.set j (src a b (c + 1))) (by simp only [exs, ex, ev, evs, evr, rdV, getS, setS, b_ok, b_st, b_nx, b_rt, b_brk, b_cnt, b_calm, b_of, fin_ret, fin_nx, optV, clr, clrs, g_nm, g_tp, g_nil, g_cons, List.map_cons, List.map_nil, List.replicate, List.cons_append, List.nil_append, List.length_cons, List.length_nil, isObj, isLst, ownV, retS, List.any_cons, List.any_nil, Bool.or_false, Bool.false_eq_true, if_false, if_true, Option.map_some, Option.bind_some, cvOf, chg, Bool.not_true, Bool.not_false, decide_true, decide_false, reduceCtorEq, Bool.true_and, Bool.false_and, Bool.true_or, Bool.false_or, d_non, d_bl, d_int, d_str, d_tup, d_lst, d_fro, t_str, t_tup, t_lst, t_int, t_intb, t_blb, t_strt, t_strl, t_tups, t_tupl, t_lstt, t_lsts, q_eqs, q_nes, q_eqi, q_nei, q_lt, q_le, q_gt, q_ge, q_les, q_lts, q_in, q_nin, q_isn, q_ist, q_isl, q_iss, q_isi, q_sn, q_st, q_sl, q_ss, q_si, f_lens, f_lenl, f_lent, f_lenf, f_all, f_any, f_int, f_max, f_min, f_lstl, f_lstt, f_tupl, f_tupt, o_add, o_sub, o_adds, o_addl, o_addt, x_l, x_t, x_f, x_s, z_l, z_t, z_s, i_l, i_t, i_f, i_i, i_s, n_ss, n_l, n_t, m_f1, m_f2, m_j, a2_0, a2_1, a3_0, a3_1, a3_2, inL2, beq_self_eq_true, o_app, Bool.true_eq_false, k_0, k_1, k_2, k_3, Nat.reduceAdd, Nat.reduceSub, Int.reduceBEq, Int.reduceLT, Int.reduceLE, Int.reduceAdd, Int.reduceSub, Int.reduceNeg, d_ref hj, hj, s3_2])]
  rw [ex_step [.val (.ref j), .val (.int k), .val (.int x), .no] (m.set j (src a b (c + 1))) (ex_asg v1)]
  rw [ex_step [.val (.ref j), .val (.int k), .val (.int y), .no] (m.set j (src a b (c + 1))) (ex_asg v2)]
  rw [ex_ret (.int (z % k)) [.val (.ref j), .val (.int k), .val (.int y), .no] (m.set j (src a b (c + 1))) (by simp only [exs, ex, ev, evs, evr, rdV, getS, setS, b_ok, b_st, b_nx, b_rt, b_brk, b_cnt, b_calm, b_of, fin_ret, fin_nx, optV, clr, clrs, g_nm, g_tp, g_nil, g_cons, List.map_cons, List.map_nil, List.replicate, List.cons_append, List.nil_append, List.length_cons, List.length_nil, isObj, isLst, ownV, retS, List.any_cons, List.any_nil, Bool.or_false, Bool.false_eq_true, if_false, if_true, Option.map_some, Option.bind_some, cvOf, chg, Bool.not_true, Bool.not_false, decide_true, decide_false, reduceCtorEq, Bool.true_and, Bool.false_and, Bool.true_or, Bool.false_or, d_non, d_bl, d_int, d_str, d_tup, d_lst, d_fro, t_str, t_tup, t_lst, t_int, t_intb, t_blb, t_strt, t_strl, t_tups, t_tupl, t_lstt, t_lsts, q_eqs, q_nes, q_eqi, q_nei, q_lt, q_le, q_gt, q_ge, q_les, q_lts, q_in, q_nin, q_isn, q_ist, q_isl, q_iss, q_isi, q_sn, q_st, q_sl, q_ss, q_si, f_lens, f_lenl, f_lent, f_lenf, f_all, f_any, f_int, f_max, f_min, f_lstl, f_lstt, f_tupl, f_tupt, o_add, o_sub, o_adds, o_addl, o_addt, x_l, x_t, x_f, x_s, z_l, z_t, z_s, i_l, i_t, i_f, i_i, i_s, n_ss, n_l, n_t, m_f1, m_f2, m_j, a2_0, a2_1, a3_0, a3_1, a3_2, inL2, beq_self_eq_true, o_app, Bool.true_eq_false, k_0, k_1, k_2, k_3, Nat.reduceAdd, Nat.reduceSub, Int.reduceBEq, Int.reduceLT, Int.reduceLE, Int.reduceAdd, Int.reduceSub, Int.reduceNeg, e9, e10])]
  rfl
theorem c_draw {j : Nat} {a b c : Int} {k : Int} (hj : m[j]? = some (src a b c)) (h : SrcOk a b c) (hk : 1 ≤ k) (hk2 : k ≤ 1000) :
    ∃ r a' c', 0 ≤ r ∧ r < k ∧ 0 ≤ a' ∧ 0 ≤ c' ∧ c' ≤ c + 1 ∧ call G wf (n + 1) "_law_draw" [.ref j, .int k] m = .ok (.int r) (m.set j (src a' b c')) := by
  by_cases ha : 1 < a
  · exact ⟨a % k, a / k, c, Int.emod_nonneg _ (by omega), Int.emod_lt_of_pos _ (by omega), Int.ediv_nonneg h.a0 (by omega), h.c0, by omega, draw1 hj h hk hk2 ha⟩
  · obtain ⟨r, h1, h2, h3⟩ := draw2 (wf := wf) (n := n) hj h hk hk2 ha
    exact ⟨r, a, c + 1, h1, h2, h.a0, by have := h.c0; omega, by omega, h3⟩
end Lt

set_option linter.all false
set_option maxRecDepth 100000
set_option maxHeartbeats 2000000
namespace Lt
variable {wf n : Nat} {m : Mem}
/-! ### tokens drawn -/
def Tk.w : Tk → List Nat
  | .tx _ => TEXT
  | .st _ => START
  | .en _ => END
def Tk.vl : Tk → List Nat
  | .tx s => s
  | .st s => s
  | .en s => s
theorem Tk.d_eq {t : Tk} : t.d = .tup [.str t.w, .str t.vl] := by cases t <;> rfl
theorem Tk.w_tx {t : Tk} : (t.w == TEXT) = t.isTx := by cases t <;> rfl
theorem depA_tk : ∀ {l : List Tk}, ∃ k, depA (l.map Tk.d) = some k ∧ k ≤ 1
  | [] => ⟨0, rfl, by decide⟩
  | t :: l => by
    obtain ⟨k, h1, h2⟩ := depA_tk (l := l)
    refine ⟨max 1 k, ?_, by omega⟩
    have : dep t.d = some 1 := by rw [Tk.d_eq]; simp [dep, depA]
    simp only [List.map_cons, depA, this, h1]
theorem dep_tk {l : List Tk} : ∃ k, dep (.lst (l.map Tk.d)) = some k ∧ k ≤ 2 := by
  obtain ⟨k, h1, h2⟩ := depA_tk (l := l)
  exact ⟨k + 1, by simp [dep, h1], by omega⟩
theorem eqOk_tk {a b : List Tk} : eqOk (.lst (a.map Tk.d)) (.lst (b.map Tk.d)) = true := by
  obtain ⟨k, h1, h2⟩ := dep_tk (l := a)
  obtain ⟨k', h3, h4⟩ := dep_tk (l := b)
  simp only [eqOk, h1, h3, decide_eq_true_eq]
  omega
theorem eqDs_refl : ∀ {l : List Tk}, eqDs (l.map Tk.d) (l.map Tk.d) = true
  | [] => rfl
  | t :: l => by
    simp only [List.map_cons, eqDs, eqDs_refl (l := l), Bool.and_true]
    rw [Tk.d_eq]
    simp [eqD, eqDs]
theorem q_same {l : List Tk} : cmpD .ne (.lst (l.map Tk.d)) (.lst (l.map Tk.d)) = some false := by
  simp only [cmpD, eqOk_tk, if_true, eqD, eqDs_refl, Bool.not_true]
theorem q_nil {l : List Tk} : cmpD .eq (.lst (l.map Tk.d)) (.lst []) = some l.isEmpty := by
  have := eqOk_tk (a := l) (b := [])
  simp only [List.map_nil] at this
  simp only [cmpD, this, if_true]
  cases l <;> simp [eqD, eqDs]
theorem q_nnil {l : List Tk} : cmpD .ne (.lst (l.map Tk.d)) (.lst []) = some (!l.isEmpty) := by
  have := eqOk_tk (a := l) (b := [])
  simp only [List.map_nil] at this
  simp only [cmpD, this, if_true]
  cases l <;> simp [eqD, eqDs]
theorem map_snoc {l : List Tk} {t : Tk} : l.map Tk.d ++ [t.d] = (l ++ [t]).map Tk.d := by simp
theorem at_last {l : List Tk} {t : Tk} : atD ((l ++ [t]).map Tk.d) (-1) = some (.tup [.str t.w, .str t.vl]) := by
  unfold atD pyIx
  rw [if_neg (by decide), if_pos (by simp; omega)]
  have e : ((-1 : Int) + (((l ++ [t]).map Tk.d).length : Nat)).toNat = (l.map Tk.d).length := by simp; omega
  show ((l ++ [t]).map Tk.d)[((-1 : Int) + (((l ++ [t]).map Tk.d).length : Nat)).toNat]? = _
  rw [e, ← map_snoc]
  simp [Tk.d_eq]
theorem sep_append : ∀ {a b : List Tk}, sep (a ++ b) = (sep a && sep b && !((a.getLast?.map Tk.isTx).getD false && (b.head?.map Tk.isTx).getD false))
  | [], b => by simp [sep]
  | [x], b => by
    cases b with
    | nil => simp [sep]
    | cons y b => simp [sep]; cases x.isTx <;> cases y.isTx <;> simp
  | x :: y :: a, b => by
    have ih := sep_append (a := y :: a) (b := b)
    simp only [List.cons_append] at ih
    simp only [List.cons_append, sep, ih, List.getLast?_cons_cons]
    cases x.isTx <;> cases y.isTx <;> simp
/-- tokens as they are drawn -/
structure Dr (l : List Tk) (k : Nat) : Prop where
  ok : ∀ t ∈ l, t.ok = true ∧ t.wr.length ≤ 8
  sp : sep l = true
  len : l.length ≤ k
theorem Dr.snoc {l : List Tk} {k : Nat} {t : Tk} (h : Dr l k) (h1 : t.ok = true) (h2 : t.wr.length ≤ 8) (h3 : t.isTx = false ∨ (l.getLast?.map Tk.isTx).getD false = false) : Dr (l ++ [t]) (k + 1) := by
  refine ⟨fun x hx => ?_, ?_, by have := h.len; simp; omega⟩
  · rcases List.mem_append.mp hx with z | z
    · exact h.ok x z
    · rw [List.mem_singleton] at z; subst z; exact ⟨h1, h2⟩
  · rw [sep_append, h.sp]
    rcases h3 with z | z <;> simp [sep, z]
abbrev tdS (j : Nat) (mm : Int) (l : List Tk) (a b c : SV) : Sl := [.val (.ref j), .val (.int mm), .own (.lst (l.map Tk.d)), a, b, c]
theorem td_B {j : Nat} {mm r1 r2 r3 : Int} {l : List Tk} {a b c : SV} {m1 m2 m3 : Mem} {t : Tk} {nm : List Nat} (hn : v = cvOf G wf (n + 1)) (d1 : call G wf (n + 1) "_law_draw" [.ref j, .int 3] m = .ok (.int r1) m1)
    (hc : (r1 == 0) = false ∨ (l.isEmpty = false ∧ ∃ w vl, atD (l.map Tk.d) (-1) = some (.tup [.str w, .str vl]) ∧ (w == TEXT) = true))
    (d2 : call G wf (n + 1) "_law_draw" [.ref j, .int 3] m1 = .ok (.int r2) m2) (d3 : call G wf (n + 1) "_law_draw" [.ref j, .int 2] m2 = .ok (.int r3) m3)
    (e2 : atD [.str [112], .str [105, 116, 101, 109], .str [113]] r2 = some (.str nm)) (e3 : ∃ w, atD [.str [115, 116, 97, 114, 116], .str [101, 110, 100]] r3 = some (.str w) ∧ t.d = .tup [.str w, .str nm]) (hl : l.length < LIM) :
    ∃ a' b' c', exs v f__law_tokens_drawn_b1 (tdS j mm l a b c) m = .ok .nx (tdS j mm (l ++ [t]) a' b' c') m3 := by
  subst hn
  obtain ⟨w, e3, et⟩ := e3
  have hl' : (l.map Tk.d).length < LIM := by simpa using hl
  refine ⟨a, .val (.int r1), .val (.str nm), ?_⟩
  simp only [f__law_tokens_drawn_b1, tdS]
  rw [ex_step [.val (.ref j), .val (.int mm), .own (.lst (l.map Tk.d)), a, .val (.int r1), c] m1 (by simp only [exs, ex, ev, evs, evr, rdV, getS, setS, b_ok, b_st, b_nx, b_rt, b_brk, b_cnt, b_calm, b_of, fin_ret, fin_nx, optV, clr, clrs, g_nm, g_tp, g_nil, g_cons, List.map_cons, List.map_nil, List.replicate, List.cons_append, List.nil_append, List.length_cons, List.length_nil, isObj, isLst, ownV, retS, List.any_cons, List.any_nil, Bool.or_false, Bool.false_eq_true, if_false, if_true, Option.map_some, Option.bind_some, cvOf, chg, Bool.not_true, Bool.not_false, decide_true, decide_false, reduceCtorEq, Bool.true_and, Bool.false_and, Bool.true_or, Bool.false_or, d_non, d_bl, d_int, d_str, d_tup, d_lst, d_fro, t_str, t_tup, t_lst, t_int, t_intb, t_blb, t_strt, t_strl, t_tups, t_tupl, t_lstt, t_lsts, q_eqs, q_nes, q_eqi, q_nei, q_lt, q_le, q_gt, q_ge, q_les, q_lts, q_in, q_nin, q_isn, q_ist, q_isl, q_iss, q_isi, q_sn, q_st, q_sl, q_ss, q_si, f_lens, f_lenl, f_lent, f_lenf, f_all, f_any, f_int, f_max, f_min, f_lstl, f_lstt, f_tupl, f_tupt, o_add, o_sub, o_adds, o_addl, o_addt, x_l, x_t, x_f, x_s, z_l, z_t, z_s, i_l, i_t, i_f, i_i, i_s, n_ss, n_l, n_t, m_f1, m_f2, m_j, a2_0, a2_1, a3_0, a3_1, a3_2, inL2, beq_self_eq_true, o_app, Bool.true_eq_false, k_0, k_1, k_2, k_3, Nat.reduceAdd, Nat.reduceSub, Int.reduceBEq, Int.reduceLT, Int.reduceLE, Int.reduceAdd, Int.reduceSub, Int.reduceNeg, d1])]
  rw [ex_step [.val (.ref j), .val (.int mm), .own (.lst ((l ++ [t]).map Tk.d)), a, .val (.int r1), .val (.str nm)] m3 ?_, ex_nil]
  rw [← map_snoc, et]
  rcases hc with hc | ⟨hc, w', vl, hc2, hc3⟩
  · simp only [exs, ex, ev, evs, evr, rdV, getS, setS, b_ok, b_st, b_nx, b_rt, b_brk, b_cnt, b_calm, b_of, fin_ret, fin_nx, optV, clr, clrs, g_nm, g_tp, g_nil, g_cons, List.map_cons, List.map_nil, List.replicate, List.cons_append, List.nil_append, List.length_cons, List.length_nil, isObj, isLst, ownV, retS, List.any_cons, List.any_nil, Bool.or_false, Bool.false_eq_true, if_false, if_true, Option.map_some, Option.bind_some, cvOf, chg, Bool.not_true, Bool.not_false, decide_true, decide_false, reduceCtorEq, Bool.true_and, Bool.false_and, Bool.true_or, Bool.false_or, d_non, d_bl, d_int, d_str, d_tup, d_lst, d_fro, t_str, t_tup, t_lst, t_int, t_intb, t_blb, t_strt, t_strl, t_tups, t_tupl, t_lstt, t_lsts, q_eqs, q_nes, q_eqi, q_nei, q_lt, q_le, q_gt, q_ge, q_les, q_lts, q_in, q_nin, q_isn, q_ist, q_isl, q_iss, q_isi, q_sn, q_st, q_sl, q_ss, q_si, f_lens, f_lenl, f_lent, f_lenf, f_all, f_any, f_int, f_max, f_min, f_lstl, f_lstt, f_tupl, f_tupt, o_add, o_sub, o_adds, o_addl, o_addt, x_l, x_t, x_f, x_s, z_l, z_t, z_s, i_l, i_t, i_f, i_i, i_s, n_ss, n_l, n_t, m_f1, m_f2, m_j, a2_0, a2_1, a3_0, a3_1, a3_2, inL2, beq_self_eq_true, o_app, Bool.true_eq_false, k_0, k_1, k_2, k_3, Nat.reduceAdd, Nat.reduceSub, Int.reduceBEq, Int.reduceLT, Int.reduceLE, Int.reduceAdd, Int.reduceSub, Int.reduceNeg, hc, d2, d3, e2, e3, hl']
  · cases hr : (r1 == 0) with
    | false => simp only [exs, ex, ev, evs, evr, rdV, getS, setS, b_ok, b_st, b_nx, b_rt, b_brk, b_cnt, b_calm, b_of, fin_ret, fin_nx, optV, clr, clrs, g_nm, g_tp, g_nil, g_cons, List.map_cons, List.map_nil, List.replicate, List.cons_append, List.nil_append, List.length_cons, List.length_nil, isObj, isLst, ownV, retS, List.any_cons, List.any_nil, Bool.or_false, Bool.false_eq_true, if_false, if_true, Option.map_some, Option.bind_some, cvOf, chg, Bool.not_true, Bool.not_false, decide_true, decide_false, reduceCtorEq, Bool.true_and, Bool.false_and, Bool.true_or, Bool.false_or, d_non, d_bl, d_int, d_str, d_tup, d_lst, d_fro, t_str, t_tup, t_lst, t_int, t_intb, t_blb, t_strt, t_strl, t_tups, t_tupl, t_lstt, t_lsts, q_eqs, q_nes, q_eqi, q_nei, q_lt, q_le, q_gt, q_ge, q_les, q_lts, q_in, q_nin, q_isn, q_ist, q_isl, q_iss, q_isi, q_sn, q_st, q_sl, q_ss, q_si, f_lens, f_lenl, f_lent, f_lenf, f_all, f_any, f_int, f_max, f_min, f_lstl, f_lstt, f_tupl, f_tupt, o_add, o_sub, o_adds, o_addl, o_addt, x_l, x_t, x_f, x_s, z_l, z_t, z_s, i_l, i_t, i_f, i_i, i_s, n_ss, n_l, n_t, m_f1, m_f2, m_j, a2_0, a2_1, a3_0, a3_1, a3_2, inL2, beq_self_eq_true, o_app, Bool.true_eq_false, k_0, k_1, k_2, k_3, Nat.reduceAdd, Nat.reduceSub, Int.reduceBEq, Int.reduceLT, Int.reduceLE, Int.reduceAdd, Int.reduceSub, Int.reduceNeg, hr, d2, d3, e2, e3, hl']
    | true => simp only [exs, ex, ev, evs, evr, rdV, getS, setS, b_ok, b_st, b_nx, b_rt, b_brk, b_cnt, b_calm, b_of, fin_ret, fin_nx, optV, clr, clrs, g_nm, g_tp, g_nil, g_cons, List.map_cons, List.map_nil, List.replicate, List.cons_append, List.nil_append, List.length_cons, List.length_nil, isObj, isLst, ownV, retS, List.any_cons, List.any_nil, Bool.or_false, Bool.false_eq_true, if_false, if_true, Option.map_some, Option.bind_some, cvOf, chg, Bool.not_true, Bool.not_false, decide_true, decide_false, reduceCtorEq, Bool.true_and, Bool.false_and, Bool.true_or, Bool.false_or, d_non, d_bl, d_int, d_str, d_tup, d_lst, d_fro, t_str, t_tup, t_lst, t_int, t_intb, t_blb, t_strt, t_strl, t_tups, t_tupl, t_lstt, t_lsts, q_eqs, q_nes, q_eqi, q_nei, q_lt, q_le, q_gt, q_ge, q_les, q_lts, q_in, q_nin, q_isn, q_ist, q_isl, q_iss, q_isi, q_sn, q_st, q_sl, q_ss, q_si, f_lens, f_lenl, f_lent, f_lenf, f_all, f_any, f_int, f_max, f_min, f_lstl, f_lstt, f_tupl, f_tupt, o_add, o_sub, o_adds, o_addl, o_addt, x_l, x_t, x_f, x_s, z_l, z_t, z_s, i_l, i_t, i_f, i_i, i_s, n_ss, n_l, n_t, m_f1, m_f2, m_j, a2_0, a2_1, a3_0, a3_1, a3_2, inL2, beq_self_eq_true, o_app, Bool.true_eq_false, k_0, k_1, k_2, k_3, Nat.reduceAdd, Nat.reduceSub, Int.reduceBEq, Int.reduceLT, Int.reduceLE, Int.reduceAdd, Int.reduceSub, Int.reduceNeg, hr, q_nil, hc, hc2, hc3, d2, d3, e2, e3, hl']
theorem td_A {j : Nat} {mm r1 r2 : Int} {l : List Tk} {a b c : SV} {m1 m2 : Mem} {t : Tk} (hn : v = cvOf G wf (n + 1)) (d1 : call G wf (n + 1) "_law_draw" [.ref j, .int 3] m = .ok (.int r1) m1) (h0 : (r1 == 0) = true)
    (hc : l.isEmpty = true ∨ (l.isEmpty = false ∧ ∃ w vl, atD (l.map Tk.d) (-1) = some (.tup [.str w, .str vl]) ∧ (w == TEXT) = false))
    (d2 : call G wf (n + 1) "_law_draw" [.ref j, .int 4] m1 = .ok (.int r2) m2) (e2 : ∃ s, atD [.str [97], .str [98, 99], .str [32], .str [120, 39, 121]] r2 = some (.str s) ∧ t.d = .tup [.str TEXT, .str s]) (hl : l.length < LIM) :
    ∃ a' b' c', exs v f__law_tokens_drawn_b1 (tdS j mm l a b c) m = .ok .nx (tdS j mm (l ++ [t]) a' b' c') m2 := by
  subst hn
  obtain ⟨s, e2, et⟩ := e2
  have hl' : (l.map Tk.d).length < LIM := by simpa using hl
  refine ⟨a, .val (.int r1), c, ?_⟩
  simp only [f__law_tokens_drawn_b1, tdS]
  rw [ex_step [.val (.ref j), .val (.int mm), .own (.lst (l.map Tk.d)), a, .val (.int r1), c] m1 (by simp only [exs, ex, ev, evs, evr, rdV, getS, setS, b_ok, b_st, b_nx, b_rt, b_brk, b_cnt, b_calm, b_of, fin_ret, fin_nx, optV, clr, clrs, g_nm, g_tp, g_nil, g_cons, List.map_cons, List.map_nil, List.replicate, List.cons_append, List.nil_append, List.length_cons, List.length_nil, isObj, isLst, ownV, retS, List.any_cons, List.any_nil, Bool.or_false, Bool.false_eq_true, if_false, if_true, Option.map_some, Option.bind_some, cvOf, chg, Bool.not_true, Bool.not_false, decide_true, decide_false, reduceCtorEq, Bool.true_and, Bool.false_and, Bool.true_or, Bool.false_or, d_non, d_bl, d_int, d_str, d_tup, d_lst, d_fro, t_str, t_tup, t_lst, t_int, t_intb, t_blb, t_strt, t_strl, t_tups, t_tupl, t_lstt, t_lsts, q_eqs, q_nes, q_eqi, q_nei, q_lt, q_le, q_gt, q_ge, q_les, q_lts, q_in, q_nin, q_isn, q_ist, q_isl, q_iss, q_isi, q_sn, q_st, q_sl, q_ss, q_si, f_lens, f_lenl, f_lent, f_lenf, f_all, f_any, f_int, f_max, f_min, f_lstl, f_lstt, f_tupl, f_tupt, o_add, o_sub, o_adds, o_addl, o_addt, x_l, x_t, x_f, x_s, z_l, z_t, z_s, i_l, i_t, i_f, i_i, i_s, n_ss, n_l, n_t, m_f1, m_f2, m_j, a2_0, a2_1, a3_0, a3_1, a3_2, inL2, beq_self_eq_true, o_app, Bool.true_eq_false, k_0, k_1, k_2, k_3, Nat.reduceAdd, Nat.reduceSub, Int.reduceBEq, Int.reduceLT, Int.reduceLE, Int.reduceAdd, Int.reduceSub, Int.reduceNeg, d1])]
  rw [ex_step [.val (.ref j), .val (.int mm), .own (.lst ((l ++ [t]).map Tk.d)), a, .val (.int r1), c] m2 ?_, ex_nil]
  rw [← map_snoc, et]
  rcases hc with hc | ⟨hc, w', vl, hc2, hc3⟩
  · simp only [exs, ex, ev, evs, evr, rdV, getS, setS, b_ok, b_st, b_nx, b_rt, b_brk, b_cnt, b_calm, b_of, fin_ret, fin_nx, optV, clr, clrs, g_nm, g_tp, g_nil, g_cons, List.map_cons, List.map_nil, List.replicate, List.cons_append, List.nil_append, List.length_cons, List.length_nil, isObj, isLst, ownV, retS, List.any_cons, List.any_nil, Bool.or_false, Bool.false_eq_true, if_false, if_true, Option.map_some, Option.bind_some, cvOf, chg, Bool.not_true, Bool.not_false, decide_true, decide_false, reduceCtorEq, Bool.true_and, Bool.false_and, Bool.true_or, Bool.false_or, d_non, d_bl, d_int, d_str, d_tup, d_lst, d_fro, t_str, t_tup, t_lst, t_int, t_intb, t_blb, t_strt, t_strl, t_tups, t_tupl, t_lstt, t_lsts, q_eqs, q_nes, q_eqi, q_nei, q_lt, q_le, q_gt, q_ge, q_les, q_lts, q_in, q_nin, q_isn, q_ist, q_isl, q_iss, q_isi, q_sn, q_st, q_sl, q_ss, q_si, f_lens, f_lenl, f_lent, f_lenf, f_all, f_any, f_int, f_max, f_min, f_lstl, f_lstt, f_tupl, f_tupt, o_add, o_sub, o_adds, o_addl, o_addt, x_l, x_t, x_f, x_s, z_l, z_t, z_s, i_l, i_t, i_f, i_i, i_s, n_ss, n_l, n_t, m_f1, m_f2, m_j, a2_0, a2_1, a3_0, a3_1, a3_2, inL2, beq_self_eq_true, o_app, Bool.true_eq_false, k_0, k_1, k_2, k_3, Nat.reduceAdd, Nat.reduceSub, Int.reduceBEq, Int.reduceLT, Int.reduceLE, Int.reduceAdd, Int.reduceSub, Int.reduceNeg, h0, q_nil, hc, d2, e2, hl']
  · simp only [exs, ex, ev, evs, evr, rdV, getS, setS, b_ok, b_st, b_nx, b_rt, b_brk, b_cnt, b_calm, b_of, fin_ret, fin_nx, optV, clr, clrs, g_nm, g_tp, g_nil, g_cons, List.map_cons, List.map_nil, List.replicate, List.cons_append, List.nil_append, List.length_cons, List.length_nil, isObj, isLst, ownV, retS, List.any_cons, List.any_nil, Bool.or_false, Bool.false_eq_true, if_false, if_true, Option.map_some, Option.bind_some, cvOf, chg, Bool.not_true, Bool.not_false, decide_true, decide_false, reduceCtorEq, Bool.true_and, Bool.false_and, Bool.true_or, Bool.false_or, d_non, d_bl, d_int, d_str, d_tup, d_lst, d_fro, t_str, t_tup, t_lst, t_int, t_intb, t_blb, t_strt, t_strl, t_tups, t_tupl, t_lstt, t_lsts, q_eqs, q_nes, q_eqi, q_nei, q_lt, q_le, q_gt, q_ge, q_les, q_lts, q_in, q_nin, q_isn, q_ist, q_isl, q_iss, q_isi, q_sn, q_st, q_sl, q_ss, q_si, f_lens, f_lenl, f_lent, f_lenf, f_all, f_any, f_int, f_max, f_min, f_lstl, f_lstt, f_tupl, f_tupt, o_add, o_sub, o_adds, o_addl, o_addt, x_l, x_t, x_f, x_s, z_l, z_t, z_s, i_l, i_t, i_f, i_i, i_s, n_ss, n_l, n_t, m_f1, m_f2, m_j, a2_0, a2_1, a3_0, a3_1, a3_2, inL2, beq_self_eq_true, o_app, Bool.true_eq_false, k_0, k_1, k_2, k_3, Nat.reduceAdd, Nat.reduceSub, Int.reduceBEq, Int.reduceLT, Int.reduceLE, Int.reduceAdd, Int.reduceSub, Int.reduceNeg, h0, q_nil, hc, hc2, hc3, d2, e2, hl']
theorem snoc_of {l : List Tk} (h : l.isEmpty = false) : ∃ l' t, l = l' ++ [t] := by
  rcases List.eq_nil_or_concat l with e | ⟨l', t, e⟩
  · subst e; cases h
  · exact ⟨l', t, by rw [e, List.concat_eq_append]⟩
/-- what a def that draws leaves of the memory -/
structure Mm (m : Mem) (j : Nat) (m' : Mem) (c : Int) : Prop where
  ex : ∃ a b c', m' = m.set j (src a b c') ∧ SrcOk a b c' ∧ c' ≤ c
theorem Mm.draw {j : Nat} {m' : Mem} {c : Int} {k : Int} (hjl : j < m.length) (h : Mm m j m' c) (hc : c < 900000) (hk : 1 ≤ k) (hk2 : k ≤ 1000) :
    ∃ r m2, 0 ≤ r ∧ r < k ∧ Mm m j m2 (c + 1) ∧ call G wf (n + 1) "_law_draw" [.ref j, .int k] m' = .ok (.int r) m2 := by
  obtain ⟨a, b, c', rfl, ok, hle⟩ := h.ex
  obtain ⟨r, a', c2, h1, h2, h3, h4, h5, h6⟩ := c_draw (wf := wf) (n := n) (List.getElem?_set_self hjl) ok hk hk2
  rw [List.set_set] at h6
  exact ⟨r, _, h1, h2, ⟨a', b, c2, rfl, ⟨h3, ok.b0, ok.b1, h4, by have := ok.c1; omega⟩, by omega⟩, h6⟩
theorem td_step {j : Nat} {mm : Int} {k : Nat} {l : List Tk} {a b c : SV} {m' : Mem} {cc : Int} (hjl : j < m.length) (hM : Mm m j m' cc) (hcc : cc < 800000) (hl : Dr l k) (hk : k < 1000) :
    ∃ t a' b' c' m2, exs (cvOf G wf (n + 1)) f__law_tokens_drawn_b1 (tdS j mm l a b c) m' = .ok .nx (tdS j mm (l ++ [t]) a' b' c') m2 ∧ Mm m j m2 (cc + 3) ∧ Dr (l ++ [t]) (k + 1) := by
  have hlim : l.length < LIM := by have := hl.len; unfold LIM; omega
  obtain ⟨r1, m1, p1, p2, M1', d1⟩ := hM.draw (wf := wf) (n := n) (k := 3) hjl (by omega) (by decide) (by decide)
  have caseB : ((r1 == 0) = false ∨ (l.isEmpty = false ∧ ∃ w vl, atD (l.map Tk.d) (-1) = some (.tup [.str w, .str vl]) ∧ (w == TEXT) = true)) →
      ∃ t a' b' c' m2, exs (cvOf G wf (n + 1)) f__law_tokens_drawn_b1 (tdS j mm l a b c) m' = .ok .nx (tdS j mm (l ++ [t]) a' b' c') m2 ∧ Mm m j m2 (cc + 3) ∧ Dr (l ++ [t]) (k + 1) := by
    intro hc
    obtain ⟨r2, m2, q1, q2, M2', d2⟩ := M1'.draw (wf := wf) (n := n) (k := 3) hjl (by omega) (by decide) (by decide)
    obtain ⟨r3, m3, u1, u2, M3', d3⟩ := M2'.draw (wf := wf) (n := n) (k := 2) hjl (by omega) (by decide) (by decide)
    have nm : ∃ s, atD [.str [112], .str [105, 116, 101, 109], .str [113]] r2 = some (.str s) ∧ isName s = true ∧ s.length ≤ 4 := by
      have : r2 = 0 ∨ r2 = 1 ∨ r2 = 2 := by omega
      rcases this with rfl | rfl | rfl
      · exact ⟨_, a3_0, by decide, by decide⟩
      · exact ⟨_, a3_1, by decide, by decide⟩
      · exact ⟨_, a3_2, by decide, by decide⟩
    obtain ⟨s, e2, n1, n2⟩ := nm
    have tk : ∃ t : Tk, (∃ w, atD [.str [115, 116, 97, 114, 116], .str [101, 110, 100]] r3 = some (.str w) ∧ t.d = .tup [.str w, .str s]) ∧ t.ok = true ∧ t.wr.length ≤ 8 ∧ t.isTx = false := by
      have : r3 = 0 ∨ r3 = 1 := by omega
      rcases this with rfl | rfl
      · exact ⟨.st s, ⟨_, a2_0, rfl⟩, n1, by simp [Tk.wr]; omega, rfl⟩
      · exact ⟨.en s, ⟨_, a2_1, rfl⟩, n1, by simp [Tk.wr]; omega, rfl⟩
    obtain ⟨t, e3, t1, t2, t3⟩ := tk
    obtain ⟨a', b', c', st⟩ := td_B (mm := mm) (a := a) (b := b) (c := c) (t := t) rfl d1 hc d2 d3 e2 e3 hlim
    refine ⟨t, a', b', c', m3, st, ?_, hl.snoc t1 t2 (.inl t3)⟩
    have e : cc + 1 + 1 + 1 = cc + 3 := by omega
    rw [← e]
    exact M3'
  have caseA : (r1 == 0) = true → (l.isEmpty = true ∨ (l.isEmpty = false ∧ ∃ w vl, atD (l.map Tk.d) (-1) = some (.tup [.str w, .str vl]) ∧ (w == TEXT) = false)) → (l.getLast?.map Tk.isTx).getD false = false →
      ∃ t a' b' c' m2, exs (cvOf G wf (n + 1)) f__law_tokens_drawn_b1 (tdS j mm l a b c) m' = .ok .nx (tdS j mm (l ++ [t]) a' b' c') m2 ∧ Mm m j m2 (cc + 3) ∧ Dr (l ++ [t]) (k + 1) := by
    intro h0 hc hlast
    obtain ⟨r2, m2, q1, q2, M2', d2⟩ := M1'.draw (wf := wf) (n := n) (k := 4) hjl (by omega) (by decide) (by decide)
    have tk : ∃ t : Tk, (∃ s, atD [.str [97], .str [98, 99], .str [32], .str [120, 39, 121]] r2 = some (.str s) ∧ t.d = .tup [.str TEXT, .str s]) ∧ t.ok = true ∧ t.wr.length ≤ 8 := by
      have : r2 = 0 ∨ r2 = 1 ∨ r2 = 2 ∨ r2 = 3 := by omega
      rcases this with rfl | rfl | rfl | rfl
      · exact ⟨.tx [97], ⟨_, rfl, rfl⟩, by decide, by decide⟩
      · exact ⟨.tx [98, 99], ⟨_, rfl, rfl⟩, by decide, by decide⟩
      · exact ⟨.tx [32], ⟨_, rfl, rfl⟩, by decide, by decide⟩
      · exact ⟨.tx [120, 39, 121], ⟨_, rfl, rfl⟩, by decide, by decide⟩
    obtain ⟨t, e2, t1, t2⟩ := tk
    obtain ⟨a', b', c', st⟩ := td_A (mm := mm) (a := a) (b := b) (c := c) (t := t) rfl d1 h0 hc d2 e2 hlim
    obtain ⟨x, y, z, f1, f2, f3⟩ := M2'.ex
    exact ⟨t, a', b', c', m2, st, ⟨x, y, z, f1, f2, by omega⟩, hl.snoc t1 t2 (.inr hlast)⟩
  cases h0 : (r1 == 0) with
  | false => exact caseB (.inl h0)
  | true =>
    cases he : l.isEmpty with
    | true =>
      refine caseA h0 (.inl he) ?_
      cases l with
      | nil => rfl
      | cons _ _ => cases he
    | false =>
      obtain ⟨l', t, rfl⟩ := snoc_of he
      cases ht : t.isTx with
      | true => exact caseB (.inr ⟨he, t.w, t.vl, at_last, by rw [Tk.w_tx, ht]⟩)
      | false => exact caseA h0 (.inr ⟨he, t.w, t.vl, at_last, by rw [Tk.w_tx, ht]⟩) (by simp [ht])
theorem c_tokens_drawn {j : Nat} {k : Nat} {m' : Mem} {cc : Int} (hjl : j < m.length) (hM : Mm m j m' cc) (hcc : cc < 700000) (hk : k < 100) :
    ∃ l m2, Dr l k ∧ Mm m j m2 (cc + 400) ∧ call G wf (n + 2) "_law_tokens_drawn" [.ref j, .int (k : Nat)] m' = .ok (.lst (l.map Tk.d)) m2 := by
  obtain ⟨r, m1, p1, p2, M1', d1⟩ := hM.draw (wf := wf) (n := n) (k := (k : Nat) + 1) hjl (by omega) (by omega) (by omega)
  obtain ⟨rn, rfl⟩ : ∃ rn : Nat, r = (rn : Nat) := ⟨r.toNat, by omega⟩
  obtain ⟨sl', m2, e1, ⟨l, a, b, c, rfl, hM2, hl⟩⟩ := forGo_inv (t := .nm 3) (body := exs (cvOf G wf (n + 1)) f__law_tokens_drawn_b1) (xs := rangeD 0 (rn : Nat))
    (fun i sl mx => ∃ l a b c, sl = tdS j (k : Nat) l a b c ∧ Mm m j mx (cc + 1 + 3 * (i : Nat)) ∧ Dr l i)
    (fun i x sl mx hx ⟨l, a, b, c, e, hMx, hl⟩ => by
      subst e
      obtain ⟨rfl, hi⟩ := rangeD_get hx
      obtain ⟨t, a', b', c', m3, st, hM3, hl3⟩ := td_step (wf := wf) (n := n) (mm := (k : Nat)) (a := .val (.int (0 + (i : Nat)))) (b := b) (c := c) hjl hMx (by omega) hl (by omega)
      refine ⟨tdS j (k : Nat) l (.val (.int (0 + (i : Nat)))) b c, _, m3, by rw [g_nm]; rfl, .inl st, l ++ [t], a', b', c', rfl, ?_, hl3⟩
      have e : cc + 1 + 3 * ((i + 1 : Nat) : Int) = cc + 1 + 3 * (i : Nat) + 3 := by omega
      rw [e]
      exact hM3)
    (sl := tdS j (k : Nat) [] .no .no .no) (m := m1) ⟨[], .no, .no, .no, rfl, by simpa using M1', ⟨by simp, rfl, by simp⟩⟩
  rw [rangeD_len] at hM2 hl
  refine ⟨l, m2, ⟨hl.ok, hl.sp, by have := hl.len; omega⟩, ?_, ?_⟩
  · obtain ⟨x, y, z, f1, f2, f3⟩ := hM2.ex
    exact ⟨x, y, z, f1, f2, by omega⟩
  · rw [call_eq G__law_tokens_drawn rfl]
    show fin (exs (cvOf G wf (n + 1)) f__law_tokens_drawn.body [.val (.ref j), .val (.int (k : Nat)), .no, .no, .no, .no] m') = _
    simp only [f__law_tokens_drawn]
    rw [ex_step (tdS j (k : Nat) [] .no .no .no) m' (by simp only [exs, ex, ev, evs, evr, rdV, getS, setS, b_ok, b_st, b_nx, b_rt, b_brk, b_cnt, b_calm, b_of, fin_ret, fin_nx, optV, clr, clrs, g_nm, g_tp, g_nil, g_cons, List.map_cons, List.map_nil, List.replicate, List.cons_append, List.nil_append, List.length_cons, List.length_nil, isObj, isLst, ownV, retS, List.any_cons, List.any_nil, Bool.or_false, Bool.false_eq_true, if_false, if_true, Option.map_some, Option.bind_some, cvOf, chg, Bool.not_true, Bool.not_false, decide_true, decide_false, reduceCtorEq, Bool.true_and, Bool.false_and, Bool.true_or, Bool.false_or, d_non, d_bl, d_int, d_str, d_tup, d_lst, d_fro, t_str, t_tup, t_lst, t_int, t_intb, t_blb, t_strt, t_strl, t_tups, t_tupl, t_lstt, t_lsts, q_eqs, q_nes, q_eqi, q_nei, q_lt, q_le, q_gt, q_ge, q_les, q_lts, q_in, q_nin, q_isn, q_ist, q_isl, q_iss, q_isi, q_sn, q_st, q_sl, q_ss, q_si, f_lens, f_lenl, f_lent, f_lenf, f_all, f_any, f_int, f_max, f_min, f_lstl, f_lstt, f_tupl, f_tupt, o_add, o_sub, o_adds, o_addl, o_addt, x_l, x_t, x_f, x_s, z_l, z_t, z_s, i_l, i_t, i_f, i_i, i_s, n_ss, n_l, n_t, m_f1, m_f2, m_j, a2_0, a2_1, a3_0, a3_1, a3_2, inL2, beq_self_eq_true, o_app, Bool.true_eq_false, k_0, k_1, k_2, k_3, Nat.reduceAdd, Nat.reduceSub, Int.reduceBEq, Int.reduceLT, Int.reduceLE, Int.reduceAdd, Int.reduceSub, Int.reduceNeg, tdS])]
    rw [ex_step (tdS j (k : Nat) l a b c) m2 (ex_for (ev_rng1 (k := (rn : Nat)) (by simp only [exs, ex, ev, evs, evr, rdV, getS, setS, b_ok, b_st, b_nx, b_rt, b_brk, b_cnt, b_calm, b_of, fin_ret, fin_nx, optV, clr, clrs, g_nm, g_tp, g_nil, g_cons, List.map_cons, List.map_nil, List.replicate, List.cons_append, List.nil_append, List.length_cons, List.length_nil, isObj, isLst, ownV, retS, List.any_cons, List.any_nil, Bool.or_false, Bool.false_eq_true, if_false, if_true, Option.map_some, Option.bind_some, cvOf, chg, Bool.not_true, Bool.not_false, decide_true, decide_false, reduceCtorEq, Bool.true_and, Bool.false_and, Bool.true_or, Bool.false_or, d_non, d_bl, d_int, d_str, d_tup, d_lst, d_fro, t_str, t_tup, t_lst, t_int, t_intb, t_blb, t_strt, t_strl, t_tups, t_tupl, t_lstt, t_lsts, q_eqs, q_nes, q_eqi, q_nei, q_lt, q_le, q_gt, q_ge, q_les, q_lts, q_in, q_nin, q_isn, q_ist, q_isl, q_iss, q_isi, q_sn, q_st, q_sl, q_ss, q_si, f_lens, f_lenl, f_lent, f_lenf, f_all, f_any, f_int, f_max, f_min, f_lstl, f_lstt, f_tupl, f_tupt, o_add, o_sub, o_adds, o_addl, o_addt, x_l, x_t, x_f, x_s, z_l, z_t, z_s, i_l, i_t, i_f, i_i, i_s, n_ss, n_l, n_t, m_f1, m_f2, m_j, a2_0, a2_1, a3_0, a3_1, a3_2, inL2, beq_self_eq_true, o_app, Bool.true_eq_false, k_0, k_1, k_2, k_3, Nat.reduceAdd, Nat.reduceSub, Int.reduceBEq, Int.reduceLT, Int.reduceLE, Int.reduceAdd, Int.reduceSub, Int.reduceNeg, d1, tdS]) (by omega) (by omega)) rfl e1)]
    rw [ex_ret (.lst (l.map Tk.d)) (tdS j (k : Nat) l a b c) m2 (by simp only [exs, ex, ev, evs, evr, rdV, getS, setS, b_ok, b_st, b_nx, b_rt, b_brk, b_cnt, b_calm, b_of, fin_ret, fin_nx, optV, clr, clrs, g_nm, g_tp, g_nil, g_cons, List.map_cons, List.map_nil, List.replicate, List.cons_append, List.nil_append, List.length_cons, List.length_nil, isObj, isLst, ownV, retS, List.any_cons, List.any_nil, Bool.or_false, Bool.false_eq_true, if_false, if_true, Option.map_some, Option.bind_some, cvOf, chg, Bool.not_true, Bool.not_false, decide_true, decide_false, reduceCtorEq, Bool.true_and, Bool.false_and, Bool.true_or, Bool.false_or, d_non, d_bl, d_int, d_str, d_tup, d_lst, d_fro, t_str, t_tup, t_lst, t_int, t_intb, t_blb, t_strt, t_strl, t_tups, t_tupl, t_lstt, t_lsts, q_eqs, q_nes, q_eqi, q_nei, q_lt, q_le, q_gt, q_ge, q_les, q_lts, q_in, q_nin, q_isn, q_ist, q_isl, q_iss, q_isi, q_sn, q_st, q_sl, q_ss, q_si, f_lens, f_lenl, f_lent, f_lenf, f_all, f_any, f_int, f_max, f_min, f_lstl, f_lstt, f_tupl, f_tupt, o_add, o_sub, o_adds, o_addl, o_addt, x_l, x_t, x_f, x_s, z_l, z_t, z_s, i_l, i_t, i_f, i_i, i_s, n_ss, n_l, n_t, m_f1, m_f2, m_j, a2_0, a2_1, a3_0, a3_1, a3_2, inL2, beq_self_eq_true, o_app, Bool.true_eq_false, k_0, k_1, k_2, k_3, Nat.reduceAdd, Nat.reduceSub, Int.reduceBEq, Int.reduceLT, Int.reduceLE, Int.reduceAdd, Int.reduceSub, Int.reduceNeg])]
    rfl
end Lt

set_option linter.all false
set_option maxRecDepth 100000
set_option maxHeartbeats 2000000
namespace Lt
variable {wf n : Nat} {m : Mem}
/-! ### the law -/
def bothT (a b : List Tk) : List Tk := match a.getLast?, b with
  | some (.tx s), .tx u :: r => a.dropLast ++ .tx (s ++ u) :: r
  | _, _ => a ++ b
theorem cut_last {xs : List D} : cut xs none (some (-1)) = xs.dropLast := by
  unfold cut sIx
  simp only [show ((-1 : Int) < 0) from by decide, if_true, List.drop_zero, Nat.sub_zero]
  rw [List.dropLast_eq_take]
  congr 1 <;> omega
theorem at_0 {t : Tk} {l : List Tk} : atD ((t :: l).map Tk.d) 0 = some (.tup [.str t.w, .str t.vl]) := by
  unfold atD pyIx
  rw [if_pos (by decide), if_pos (by simp <;> omega)]
  simp [Tk.d_eq]
theorem isTx_of {t : Tk} (h : t.isTx = true) : ∃ s, t = .tx s := by
  cases t <;> first | exact ⟨_, rfl⟩ | exact Bool.noConfusion h
theorem TT : (TEXT == TEXT) = true := by decide
theorem both_gen {xs ys : List D} (hlen : xs.length + ys.length + 1 ≤ LIM) :
    (cmpD .ne (.lst xs) (.lst []) = some false → call G wf (n + 1) "_law_both" [.lst xs, .lst ys] m = .ok (.lst (xs ++ ys)) m) ∧
    (cmpD .ne (.lst xs) (.lst []) = some true → cmpD .ne (.lst ys) (.lst []) = some false → call G wf (n + 1) "_law_both" [.lst xs, .lst ys] m = .ok (.lst (xs ++ ys)) m) ∧
    (∀ w v1, cmpD .ne (.lst xs) (.lst []) = some true → cmpD .ne (.lst ys) (.lst []) = some true → atD xs (-1) = some (.tup [.str w, .str v1]) → (w == TEXT) = false → call G wf (n + 1) "_law_both" [.lst xs, .lst ys] m = .ok (.lst (xs ++ ys)) m) ∧
    (∀ w v1 w2 v2, cmpD .ne (.lst xs) (.lst []) = some true → cmpD .ne (.lst ys) (.lst []) = some true → atD xs (-1) = some (.tup [.str w, .str v1]) → (w == TEXT) = true → atD ys 0 = some (.tup [.str w2, .str v2]) → (w2 == TEXT) = false → call G wf (n + 1) "_law_both" [.lst xs, .lst ys] m = .ok (.lst (xs ++ ys)) m) ∧
    (∀ w v1 w2 v2, cmpD .ne (.lst xs) (.lst []) = some true → cmpD .ne (.lst ys) (.lst []) = some true → atD xs (-1) = some (.tup [.str w, .str v1]) → (w == TEXT) = true → atD ys 0 = some (.tup [.str w2, .str v2]) → (w2 == TEXT) = true → v1.length + v2.length ≤ LIM →
      call G wf (n + 1) "_law_both" [.lst xs, .lst ys] m = .ok (.lst (xs.dropLast ++ [.tup [.str TEXT, .str (v1 ++ v2)]] ++ ys.drop 1)) m) := by
  have h0 : xs.length + ys.length ≤ LIM := by omega
  have c1 : cut ys (some 1) none = ys.drop 1 := cut_from (k := 1)
  have h2 : xs.dropLast.length + 1 ≤ LIM := by simp; omega
  have h3 : (xs.dropLast ++ [D.tup [D.str TEXT, D.str []]]).length + (ys.drop 1).length ≤ LIM := by simp; omega
  have h4 : ∀ q, (xs.dropLast ++ [D.tup [D.str TEXT, D.str q]]).length + (ys.drop 1).length ≤ LIM := fun q => by simp; omega
  refine ⟨fun e1 => ?_, fun e1 e2 => ?_, fun w v1 e1 e2 e3 e4 => ?_, fun w v1 w2 v2 e1 e2 e3 e4 e5 e6 => ?_, fun w v1 w2 v2 e1 e2 e3 e4 e5 e6 e7 => ?_⟩ <;> rw [call_eq G__law_both rfl]
  · simp only [f__law_both, exs, ex, ev, evs, evr, rdV, getS, setS, b_ok, b_st, b_nx, b_rt, b_brk, b_cnt, b_calm, b_of, fin_ret, fin_nx, optV, clr, clrs, g_nm, g_tp, g_nil, g_cons, List.map_cons, List.map_nil, List.replicate, List.cons_append, List.nil_append, List.length_cons, List.length_nil, isObj, isLst, ownV, retS, List.any_cons, List.any_nil, Bool.or_false, Bool.false_eq_true, if_false, if_true, Option.map_some, Option.bind_some, cvOf, chg, Bool.not_true, Bool.not_false, decide_true, decide_false, reduceCtorEq, Bool.true_and, Bool.false_and, Bool.true_or, Bool.false_or, d_non, d_bl, d_int, d_str, d_tup, d_lst, d_fro, t_str, t_tup, t_lst, t_int, t_intb, t_blb, t_strt, t_strl, t_tups, t_tupl, t_lstt, t_lsts, q_eqs, q_nes, q_eqi, q_nei, q_lt, q_le, q_gt, q_ge, q_les, q_lts, q_in, q_nin, q_isn, q_ist, q_isl, q_iss, q_isi, q_sn, q_st, q_sl, q_ss, q_si, f_lens, f_lenl, f_lent, f_lenf, f_all, f_any, f_int, f_max, f_min, f_lstl, f_lstt, f_tupl, f_tupt, o_add, o_sub, o_adds, o_addl, o_addt, x_l, x_t, x_f, x_s, z_l, z_t, z_s, i_l, i_t, i_f, i_i, i_s, n_ss, n_l, n_t, m_f1, m_f2, m_j, a2_0, a2_1, a3_0, a3_1, a3_2, inL2, beq_self_eq_true, o_app, Bool.true_eq_false, k_0, k_1, k_2, k_3, Nat.reduceAdd, Nat.reduceSub, Int.reduceBEq, Int.reduceLT, Int.reduceLE, Int.reduceAdd, Int.reduceSub, Int.reduceNeg, e1, h0]
  · simp only [f__law_both, exs, ex, ev, evs, evr, rdV, getS, setS, b_ok, b_st, b_nx, b_rt, b_brk, b_cnt, b_calm, b_of, fin_ret, fin_nx, optV, clr, clrs, g_nm, g_tp, g_nil, g_cons, List.map_cons, List.map_nil, List.replicate, List.cons_append, List.nil_append, List.length_cons, List.length_nil, isObj, isLst, ownV, retS, List.any_cons, List.any_nil, Bool.or_false, Bool.false_eq_true, if_false, if_true, Option.map_some, Option.bind_some, cvOf, chg, Bool.not_true, Bool.not_false, decide_true, decide_false, reduceCtorEq, Bool.true_and, Bool.false_and, Bool.true_or, Bool.false_or, d_non, d_bl, d_int, d_str, d_tup, d_lst, d_fro, t_str, t_tup, t_lst, t_int, t_intb, t_blb, t_strt, t_strl, t_tups, t_tupl, t_lstt, t_lsts, q_eqs, q_nes, q_eqi, q_nei, q_lt, q_le, q_gt, q_ge, q_les, q_lts, q_in, q_nin, q_isn, q_ist, q_isl, q_iss, q_isi, q_sn, q_st, q_sl, q_ss, q_si, f_lens, f_lenl, f_lent, f_lenf, f_all, f_any, f_int, f_max, f_min, f_lstl, f_lstt, f_tupl, f_tupt, o_add, o_sub, o_adds, o_addl, o_addt, x_l, x_t, x_f, x_s, z_l, z_t, z_s, i_l, i_t, i_f, i_i, i_s, n_ss, n_l, n_t, m_f1, m_f2, m_j, a2_0, a2_1, a3_0, a3_1, a3_2, inL2, beq_self_eq_true, o_app, Bool.true_eq_false, k_0, k_1, k_2, k_3, Nat.reduceAdd, Nat.reduceSub, Int.reduceBEq, Int.reduceLT, Int.reduceLE, Int.reduceAdd, Int.reduceSub, Int.reduceNeg, e1, e2, h0]
  · simp only [f__law_both, exs, ex, ev, evs, evr, rdV, getS, setS, b_ok, b_st, b_nx, b_rt, b_brk, b_cnt, b_calm, b_of, fin_ret, fin_nx, optV, clr, clrs, g_nm, g_tp, g_nil, g_cons, List.map_cons, List.map_nil, List.replicate, List.cons_append, List.nil_append, List.length_cons, List.length_nil, isObj, isLst, ownV, retS, List.any_cons, List.any_nil, Bool.or_false, Bool.false_eq_true, if_false, if_true, Option.map_some, Option.bind_some, cvOf, chg, Bool.not_true, Bool.not_false, decide_true, decide_false, reduceCtorEq, Bool.true_and, Bool.false_and, Bool.true_or, Bool.false_or, d_non, d_bl, d_int, d_str, d_tup, d_lst, d_fro, t_str, t_tup, t_lst, t_int, t_intb, t_blb, t_strt, t_strl, t_tups, t_tupl, t_lstt, t_lsts, q_eqs, q_nes, q_eqi, q_nei, q_lt, q_le, q_gt, q_ge, q_les, q_lts, q_in, q_nin, q_isn, q_ist, q_isl, q_iss, q_isi, q_sn, q_st, q_sl, q_ss, q_si, f_lens, f_lenl, f_lent, f_lenf, f_all, f_any, f_int, f_max, f_min, f_lstl, f_lstt, f_tupl, f_tupt, o_add, o_sub, o_adds, o_addl, o_addt, x_l, x_t, x_f, x_s, z_l, z_t, z_s, i_l, i_t, i_f, i_i, i_s, n_ss, n_l, n_t, m_f1, m_f2, m_j, a2_0, a2_1, a3_0, a3_1, a3_2, inL2, beq_self_eq_true, o_app, Bool.true_eq_false, k_0, k_1, k_2, k_3, Nat.reduceAdd, Nat.reduceSub, Int.reduceBEq, Int.reduceLT, Int.reduceLE, Int.reduceAdd, Int.reduceSub, Int.reduceNeg, e1, e2, e3, e4, h0]
  · simp only [f__law_both, exs, ex, ev, evs, evr, rdV, getS, setS, b_ok, b_st, b_nx, b_rt, b_brk, b_cnt, b_calm, b_of, fin_ret, fin_nx, optV, clr, clrs, g_nm, g_tp, g_nil, g_cons, List.map_cons, List.map_nil, List.replicate, List.cons_append, List.nil_append, List.length_cons, List.length_nil, isObj, isLst, ownV, retS, List.any_cons, List.any_nil, Bool.or_false, Bool.false_eq_true, if_false, if_true, Option.map_some, Option.bind_some, cvOf, chg, Bool.not_true, Bool.not_false, decide_true, decide_false, reduceCtorEq, Bool.true_and, Bool.false_and, Bool.true_or, Bool.false_or, d_non, d_bl, d_int, d_str, d_tup, d_lst, d_fro, t_str, t_tup, t_lst, t_int, t_intb, t_blb, t_strt, t_strl, t_tups, t_tupl, t_lstt, t_lsts, q_eqs, q_nes, q_eqi, q_nei, q_lt, q_le, q_gt, q_ge, q_les, q_lts, q_in, q_nin, q_isn, q_ist, q_isl, q_iss, q_isi, q_sn, q_st, q_sl, q_ss, q_si, f_lens, f_lenl, f_lent, f_lenf, f_all, f_any, f_int, f_max, f_min, f_lstl, f_lstt, f_tupl, f_tupt, o_add, o_sub, o_adds, o_addl, o_addt, x_l, x_t, x_f, x_s, z_l, z_t, z_s, i_l, i_t, i_f, i_i, i_s, n_ss, n_l, n_t, m_f1, m_f2, m_j, a2_0, a2_1, a3_0, a3_1, a3_2, inL2, beq_self_eq_true, o_app, Bool.true_eq_false, k_0, k_1, k_2, k_3, Nat.reduceAdd, Nat.reduceSub, Int.reduceBEq, Int.reduceLT, Int.reduceLE, Int.reduceAdd, Int.reduceSub, Int.reduceNeg, e1, e2, e3, e4, e5, e6, h0]
  · simp only [f__law_both, exs, ex, ev, evs, evr, rdV, getS, setS, b_ok, b_st, b_nx, b_rt, b_brk, b_cnt, b_calm, b_of, fin_ret, fin_nx, optV, clr, clrs, g_nm, g_tp, g_nil, g_cons, List.map_cons, List.map_nil, List.replicate, List.cons_append, List.nil_append, List.length_cons, List.length_nil, isObj, isLst, ownV, retS, List.any_cons, List.any_nil, Bool.or_false, Bool.false_eq_true, if_false, if_true, Option.map_some, Option.bind_some, cvOf, chg, Bool.not_true, Bool.not_false, decide_true, decide_false, reduceCtorEq, Bool.true_and, Bool.false_and, Bool.true_or, Bool.false_or, d_non, d_bl, d_int, d_str, d_tup, d_lst, d_fro, t_str, t_tup, t_lst, t_int, t_intb, t_blb, t_strt, t_strl, t_tups, t_tupl, t_lstt, t_lsts, q_eqs, q_nes, q_eqi, q_nei, q_lt, q_le, q_gt, q_ge, q_les, q_lts, q_in, q_nin, q_isn, q_ist, q_isl, q_iss, q_isi, q_sn, q_st, q_sl, q_ss, q_si, f_lens, f_lenl, f_lent, f_lenf, f_all, f_any, f_int, f_max, f_min, f_lstl, f_lstt, f_tupl, f_tupt, o_add, o_sub, o_adds, o_addl, o_addt, x_l, x_t, x_f, x_s, z_l, z_t, z_s, i_l, i_t, i_f, i_i, i_s, n_ss, n_l, n_t, m_f1, m_f2, m_j, a2_0, a2_1, a3_0, a3_1, a3_2, inL2, beq_self_eq_true, o_app, Bool.true_eq_false, k_0, k_1, k_2, k_3, Nat.reduceAdd, Nat.reduceSub, Int.reduceBEq, Int.reduceLT, Int.reduceLE, Int.reduceAdd, Int.reduceSub, Int.reduceNeg, e1, e2, e3, e4, e5, e6, e7, cut_last, c1, h2, h4]
theorem c_both {a b : List Tk} {k1 k2 : Nat} (ha : Dr a k1) (hb : Dr b k2) (hk : k1 + k2 ≤ 1000) : call G wf (n + 1) "_law_both" [.lst (a.map Tk.d), .lst (b.map Tk.d)] m = .ok (.lst ((bothT a b).map Tk.d)) m := by
  have la := ha.len
  have lb := hb.len
  obtain ⟨g1, g2, g3, g4, g5⟩ := both_gen (wf := wf) (n := n) (m := m) (xs := a.map Tk.d) (ys := b.map Tk.d) (by simp; unfold LIM; omega)
  have plain : bothT a b = a ++ b → .ok (.lst (a.map Tk.d ++ b.map Tk.d)) m = Lt.R.ok (D.lst ((bothT a b).map Tk.d)) m := fun e => by rw [e, List.map_append]
  cases hea : a.isEmpty with
  | true => rw [g1 (by rw [q_nnil, hea]; rfl)]; exact plain (by cases a with | nil => rfl | cons _ _ => cases hea)
  | false =>
    obtain ⟨a', t, rfl⟩ := snoc_of hea
    have e1 : cmpD .ne (.lst ((a' ++ [t]).map Tk.d)) (.lst []) = some true := by rw [q_nnil, hea]; rfl
    cases b with
    | nil => rw [g2 e1 (by rw [q_nnil]; rfl)]; exact plain (by unfold bothT; cases t <;> simp)
    | cons u b' =>
      have e2 : cmpD .ne (.lst ((u :: b').map Tk.d)) (.lst []) = some true := by rw [q_nnil]; rfl
      cases ht : t.isTx with
      | false => rw [g3 _ _ e1 e2 at_last (by rw [Tk.w_tx, ht])]; exact plain (by unfold bothT; cases t <;> first | (cases ht; done) | simp)
      | true =>
        cases hu : u.isTx with
        | false => rw [g4 _ _ _ _ e1 e2 at_last (by rw [Tk.w_tx, ht]) at_0 (by rw [Tk.w_tx, hu])]; exact plain (by unfold bothT; cases u <;> first | (cases hu; done) | (cases t <;> simp))
        | true =>
          obtain ⟨s1, rfl⟩ := isTx_of ht
          obtain ⟨s2, rfl⟩ := isTx_of hu
          have w1 := (ha.ok (.tx s1) (by simp)).2
          have w2 := (hb.ok (.tx s2) (by simp)).2
          simp only [Tk.wr] at w1 w2
          rw [g5 _ _ _ _ e1 e2 at_last rfl at_0 rfl (by simp only [Tk.vl]; unfold LIM; omega)]
          simp [bothT, Tk.d, Tk.vl, List.dropLast_concat]
/-- well made, short -/
structure Sh (l : List Tk) (k b : Nat) : Prop where
  ok : ∀ t ∈ l, t.ok = true ∧ t.wr.length ≤ b
  sp : sep l = true
  len : l.length ≤ k
theorem signs_app {a b : List Nat} (ha : isSigns a = true) (hb : isSigns b = true) : isSigns (a ++ b) = true := by
  simp only [isSigns, Bool.and_eq_true, Bool.not_eq_true'] at ha hb ⊢
  refine ⟨?_, by rw [List.all_append, Bool.and_eq_true]; exact ⟨ha.2, hb.2⟩⟩
  cases a with
  | nil => exact absurd ha.1 (by decide)
  | cons _ _ => rfl
theorem both_ok {a b : List Tk} {k1 k2 : Nat} (ha : Dr a k1) (hb : Dr b k2) : Sh (bothT a b) (k1 + k2) 16 ∧ wrs (bothT a b) = wrs a ++ wrs b := by
  have la := ha.len
  have lb := hb.len
  have plain : ((a.getLast?.map Tk.isTx).getD false && (b.head?.map Tk.isTx).getD false) = false → bothT a b = a ++ b → Sh (bothT a b) (k1 + k2) 16 ∧ wrs (bothT a b) = wrs a ++ wrs b := fun hs e => by
    rw [e]
    refine ⟨⟨fun t ht => ?_, by rw [sep_append, ha.sp, hb.sp, hs]; rfl, by simp; omega⟩, wrs_append⟩
    rcases List.mem_append.mp ht with z | z
    · exact ⟨(ha.ok t z).1, by have := (ha.ok t z).2; omega⟩
    · exact ⟨(hb.ok t z).1, by have := (hb.ok t z).2; omega⟩
  cases hea : a.isEmpty with
  | true => cases a with
    | nil => exact plain rfl rfl
    | cons _ _ => cases hea
  | false =>
    obtain ⟨a', t, rfl⟩ := snoc_of hea
    cases b with
    | nil => exact plain (by simp) (by unfold bothT; cases t <;> simp)
    | cons u b' =>
      cases ht : t.isTx with
      | false => exact plain (by simp [ht]) (by unfold bothT; cases t <;> first | (cases ht; done) | simp)
      | true =>
        cases hu : u.isTx with
        | false => exact plain (by simp [hu]) (by unfold bothT; cases u <;> first | (cases hu; done) | (cases t <;> simp))
        | true =>
          obtain ⟨s1, rfl⟩ := isTx_of ht
          obtain ⟨s2, rfl⟩ := isTx_of hu
          have w1 := ha.ok (.tx s1) (by simp)
          have w2 := hb.ok (.tx s2) (by simp)
          simp only [Tk.wr, Tk.ok] at w1 w2
          have e : bothT (a' ++ [.tx s1]) (.tx s2 :: b') = a' ++ (.tx (s1 ++ s2) :: b') := by simp [bothT, List.dropLast_concat]
          have sa := ha.sp
          have sb := hb.sp
          rw [sep_append] at sa
          simp only [Bool.and_eq_true] at sa
          rw [e]
          refine ⟨⟨fun x hx => ?_, ?_, by simp at la lb ⊢; omega⟩, by simp [wrs_append, wrs, Tk.wr]⟩
          · simp only [List.mem_append, List.mem_cons] at hx
            rcases hx with z | rfl | z
            · have q := ha.ok x (by simp [z]); exact ⟨q.1, by omega⟩
            · exact ⟨signs_app w1.1 w2.1, by simp only [Tk.wr, List.length_append]; omega⟩
            · have q := hb.ok x (by simp [z]); exact ⟨q.1, by omega⟩
          · rw [sep_append, sa.1.1]
            have h1 : (Option.map Tk.isTx a'.getLast?).getD false = false := by
              have := sa.2
              simpa [Tk.isTx] using this
            have h2 : sep (.tx (s1 ++ s2) :: b') = true := by
              cases b' with
              | nil => rfl
              | cons y r => simpa [sep, Tk.isTx] using sb
            rw [h1, h2]
            rfl
end Lt

set_option linter.all false
set_option maxRecDepth 100000
set_option maxHeartbeats 4000000
namespace Lt
variable {wf n : Nat} {m : Mem}
theorem law_b1 {s0 s1 s2 s3 s4 s5 s6 s12 s13 : SV} {W w : List Nat} {pcs toks : List D} {p q j : Int} {td : D} (h1 : atD pcs j = some (.tup [.int p, .int q])) (h2 : atD toks j = some td) (h3 : cut W (some p) (some q) = w) (h4 : call G wf n "text_of" [.lst [td]] m = .ok (.str w) m) :
    exs (cvOf G wf n) f_law_b1 [s0, s1, s2, s3, s4, s5, s6, .val (.str W), .val (.lst pcs), .val (.lst toks), .val (.int p), .val (.int j), s12, s13] m =
      .ok .nx [s0, s1, s2, s3, s4, s5, s6, .val (.str W), .val (.lst pcs), .val (.lst toks), .val (.int q), .val (.int j), .val (.int p), .val (.int q)] m := by
  simp only [f_law_b1, exs, ex, ev, evs, evr, rdV, getS, setS, b_ok, b_st, b_nx, b_rt, b_brk, b_cnt, b_calm, b_of, fin_ret, fin_nx, optV, clr, clrs, g_nm, g_tp, g_nil, g_cons, List.map_cons, List.map_nil, List.replicate, List.cons_append, List.nil_append, List.length_cons, List.length_nil, isObj, isLst, ownV, retS, List.any_cons, List.any_nil, Bool.or_false, Bool.false_eq_true, if_false, if_true, Option.map_some, Option.bind_some, cvOf, chg, Bool.not_true, Bool.not_false, decide_true, decide_false, reduceCtorEq, Bool.true_and, Bool.false_and, Bool.true_or, Bool.false_or, d_non, d_bl, d_int, d_str, d_tup, d_lst, d_fro, t_str, t_tup, t_lst, t_int, t_intb, t_blb, t_strt, t_strl, t_tups, t_tupl, t_lstt, t_lsts, q_eqs, q_nes, q_eqi, q_nei, q_lt, q_le, q_gt, q_ge, q_les, q_lts, q_in, q_nin, q_isn, q_ist, q_isl, q_iss, q_isi, q_sn, q_st, q_sl, q_ss, q_si, f_lens, f_lenl, f_lent, f_lenf, f_all, f_any, f_int, f_max, f_min, f_lstl, f_lstt, f_tupl, f_tupt, o_add, o_sub, o_adds, o_addl, o_addt, x_l, x_t, x_f, x_s, z_l, z_t, z_s, i_l, i_t, i_f, i_i, i_s, n_ss, n_l, n_t, m_f1, m_f2, m_j, a2_0, a2_1, a3_0, a3_1, a3_2, inL2, beq_self_eq_true, o_app, Bool.true_eq_false, k_0, k_1, k_2, k_3, Nat.reduceAdd, Nat.reduceSub, Int.reduceBEq, Int.reduceLT, Int.reduceLE, Int.reduceAdd, Int.reduceSub, Int.reduceNeg, h1, h2, h3, h4]
theorem ends_get : ∀ {L : List Tk} {p i : Nat}, i < L.length → (ends p L)[i]? = some (p + (wrs (L.take i)).length, p + (wrs (L.take (i + 1))).length)
  | [], p, i, h => by simp at h
  | t :: L, p, 0, h => by simp [ends, wrs]
  | t :: L, p, i + 1, h => by
    have := ends_get (L := L) (p := p + t.wr.length) (i := i) (by simpa using h)
    simp only [ends, List.getElem?_cons_succ, this, List.take_succ_cons, wrs, List.length_append, Nat.add_assoc]
abbrev pcsOf (L : List Tk) : List D := (ends 0 L).map fun q => .tup [.int (q.1 : Nat), .int (q.2 : Nat)]
theorem loop_b1 {s0 s1 s2 s3 s4 s5 s6 s11 s12 s13 : SV} {L : List Tk} (hL : ∀ t ∈ L, t.ok = true ∧ t.wr.length ≤ 16) (hlen : L.length ≤ 1000) :
    ∃ a b c, forGo (.nm 11) (exs (cvOf G wf (n + 5)) f_law_b1) (rangeD 0 ((pcsOf L).length : Nat)) [s0, s1, s2, s3, s4, s5, s6, .val (.str (wrs L)), .val (.lst (pcsOf L)), .val (.lst (L.map Tk.d)), .val (.int 0), s11, s12, s13] m =
      .ok .nx [s0, s1, s2, s3, s4, s5, s6, .val (.str (wrs L)), .val (.lst (pcsOf L)), .val (.lst (L.map Tk.d)), .val (.int ((wrs L).length : Nat)), a, b, c] m := by
  have hpl : (pcsOf L).length = L.length := by simp [ends_len]
  obtain ⟨sl', m2, e1, ⟨a, b, c, rfl, rfl⟩⟩ := forGo_inv (t := .nm 11) (body := exs (cvOf G wf (n + 5)) f_law_b1) (xs := rangeD 0 ((pcsOf L).length : Nat))
    (fun i sl mx => ∃ a b c, sl = [s0, s1, s2, s3, s4, s5, s6, .val (.str (wrs L)), .val (.lst (pcsOf L)), .val (.lst (L.map Tk.d)), .val (.int ((wrs (L.take i)).length : Nat)), a, b, c] ∧ mx = m)
    (fun i x sl mx hx ⟨a, b, c, e, em⟩ => by
      subst e em
      obtain ⟨rfl, hi⟩ := rangeD_get hx
      have hi' : i < L.length := by rw [hpl] at hi; omega
      have ht : L[i]? = some L[i] := List.getElem?_eq_getElem hi'
      have hm : L[i] ∈ L := List.getElem_mem hi'
      have z : (0 : Int) + (i : Nat) = (i : Nat) := by omega
      have h1 : atD (pcsOf L) (i : Nat) = some (.tup [.int ((wrs (L.take i)).length : Nat), .int ((wrs (L.take (i + 1))).length : Nat)]) := atD_nat (by simp [ends_get hi'])
      have h2 : atD (L.map Tk.d) (i : Nat) = some L[i].d := atD_nat (by simp [ht])
      have eW : wrs L = wrs (L.take i) ++ (L[i].wr ++ wrs (L.drop (i + 1))) := by
        have : L = L.take i ++ (L[i] :: L.drop (i + 1)) := by simp
        conv => lhs; rw [this]
        rw [wrs_append]
        rfl
      have e2 : (wrs (L.take (i + 1))).length = (wrs (L.take i)).length + L[i].wr.length := by
        rw [List.take_succ_eq_append_getElem hi', wrs_append]
        simp [wrs]
      have h3 : cut (wrs L) (some ((wrs (L.take i)).length : Nat)) (some ((wrs (L.take (i + 1))).length : Nat)) = L[i].wr := by
        rw [eW]
        exact cut_app rfl (by rw [e2])
      have h4 : call G wf (n + 5) "text_of" [.lst [L[i].d]] mx = .ok (.str L[i].wr) mx := by
        have q := c_text_of (wf := wf) (n := n + 1) (m := mx) (l := [L[i]]) (fun t h => by rw [List.mem_singleton] at h; subst h; exact (hL _ hm).1) (fun t h => by rw [List.mem_singleton] at h; subst h; have := (hL _ hm).2; omega) (by have := (hL _ hm).2; simp [wrs]; unfold LIM; omega)
        simpa [wrs] using q
      refine ⟨_, _, mx, g_nm, .inl ?_, .val (.int (i : Nat)), .val (.int ((wrs (L.take i)).length : Nat)), .val (.int ((wrs (L.take (i + 1))).length : Nat)), rfl, rfl⟩
      rw [z]
      exact law_b1 h1 h2 h3 h4)
    (sl := [s0, s1, s2, s3, s4, s5, s6, .val (.str (wrs L)), .val (.lst (pcsOf L)), .val (.lst (L.map Tk.d)), .val (.int 0), s11, s12, s13]) (m := m) ⟨_, _, _, rfl, rfl⟩
  refine ⟨a, b, c, ?_⟩
  rw [e1, rangeD_len]
  have e : (((pcsOf L).length : Int) - 0).toNat = L.length := by rw [hpl]; omega
  rw [e, List.take_length]
abbrev tnS (s0 s1 : SV) (j : Nat) (s3 s4 s5 s6 s7 s8 s9 s10 s11 s12 s13 : SV) : Sl := [s0, s1, .val (.ref j), s3, s4, s5, s6, s7, s8, s9, s10, s11, s12, s13]
theorem turn_gen {j : Nat} {xs ys zs pcs : List D} {F W F2 : List Nat} {m0 m1 m2 : Mem} {s0 s1 s3 s4 s5 s6 s7 s8 s9 s10 s11 s12 s13 : SV}
    (d1 : call G wf n "_law_tokens_drawn" [.ref j, .int 40] m0 = .ok (.lst xs) m1) (d2 : call G wf n "_law_tokens_drawn" [.ref j, .int 20] m1 = .ok (.lst ys) m2)
    (d3 : call G wf n "text_of" [.lst xs] m2 = .ok (.str F) m2) (d4 : call G wf n "text_of" [.lst ys] m2 = .ok (.str F2) m2) (l1 : F.length + F2.length ≤ LIM) (hW : F ++ F2 = W) (l2 : xs.length + ys.length ≤ LIM)
    (d5 : call G wf n "text_of" [.lst (xs ++ ys)] m2 = .ok (.str W) m2) (d6 : call G wf n "tokens_of" [.str W] m2 = .ok (.lst zs) m2) (d7 : call G wf n "_law_both" [.lst xs, .lst ys] m2 = .ok (.lst zs) m2)
    (q1 : cmpD .ne (.lst zs) (.lst zs) = some false) (q2 : cmpD .ne (.lst xs) (.lst xs) = some false) (d8 : call G wf n "places_of" [.str W] m2 = .ok (.lst pcs) m2) (hl : pcs.length = zs.length) (hp : pcs.length ≤ 1000000)
    (d9 : call G wf n "tokens_of" [.str F] m2 = .ok (.lst xs) m2)
    (hf : ∃ a b c, forGo (.nm 11) (exs (cvOf G wf n) f_law_b1) (rangeD 0 (pcs.length : Nat)) [s0, s1, .val (.ref j), s3, .val (.lst xs), .val (.lst ys), .val (.str F), .val (.str W), .val (.lst pcs), .val (.lst zs), .val (.int 0), s11, s12, s13] m2 =
      .ok .nx [s0, s1, .val (.ref j), s3, .val (.lst xs), .val (.lst ys), .val (.str F), .val (.str W), .val (.lst pcs), .val (.lst zs), .val (.int (W.length : Nat)), a, b, c] m2) :
    ∃ t4 t5 t6 t7 t8 t9 t10 t11 t12 t13, exs (cvOf G wf n) f_law_b2 (tnS s0 s1 j s3 s4 s5 s6 s7 s8 s9 s10 s11 s12 s13) m0 = .ok .nx (tnS s0 s1 j s3 t4 t5 t6 t7 t8 t9 t10 t11 t12 t13) m2 := by
  obtain ⟨a, b, c, hf⟩ := hf
  refine ⟨.val (.lst xs), .val (.lst ys), .val (.str F), .val (.str W), .val (.lst pcs), .val (.lst zs), .val (.int (W.length : Nat)), a, b, c, ?_⟩
  simp only [f_law_b2, tnS]
  rw [ex_step [s0, s1, .val (.ref j), s3, .val (.lst xs), s5, s6, s7, s8, s9, s10, s11, s12, s13] m1 (by simp only [exs, ex, ev, evs, evr, rdV, getS, setS, b_ok, b_st, b_nx, b_rt, b_brk, b_cnt, b_calm, b_of, fin_ret, fin_nx, optV, clr, clrs, g_nm, g_tp, g_nil, g_cons, List.map_cons, List.map_nil, List.replicate, List.cons_append, List.nil_append, List.length_cons, List.length_nil, isObj, isLst, ownV, retS, List.any_cons, List.any_nil, Bool.or_false, Bool.false_eq_true, if_false, if_true, Option.map_some, Option.bind_some, cvOf, chg, Bool.not_true, Bool.not_false, decide_true, decide_false, reduceCtorEq, Bool.true_and, Bool.false_and, Bool.true_or, Bool.false_or, d_non, d_bl, d_int, d_str, d_tup, d_lst, d_fro, t_str, t_tup, t_lst, t_int, t_intb, t_blb, t_strt, t_strl, t_tups, t_tupl, t_lstt, t_lsts, q_eqs, q_nes, q_eqi, q_nei, q_lt, q_le, q_gt, q_ge, q_les, q_lts, q_in, q_nin, q_isn, q_ist, q_isl, q_iss, q_isi, q_sn, q_st, q_sl, q_ss, q_si, f_lens, f_lenl, f_lent, f_lenf, f_all, f_any, f_int, f_max, f_min, f_lstl, f_lstt, f_tupl, f_tupt, o_add, o_sub, o_adds, o_addl, o_addt, x_l, x_t, x_f, x_s, z_l, z_t, z_s, i_l, i_t, i_f, i_i, i_s, n_ss, n_l, n_t, m_f1, m_f2, m_j, a2_0, a2_1, a3_0, a3_1, a3_2, inL2, beq_self_eq_true, o_app, Bool.true_eq_false, k_0, k_1, k_2, k_3, Nat.reduceAdd, Nat.reduceSub, Int.reduceBEq, Int.reduceLT, Int.reduceLE, Int.reduceAdd, Int.reduceSub, Int.reduceNeg, d1])]
  rw [ex_step [s0, s1, .val (.ref j), s3, .val (.lst xs), .val (.lst ys), s6, s7, s8, s9, s10, s11, s12, s13] m2 (by simp only [exs, ex, ev, evs, evr, rdV, getS, setS, b_ok, b_st, b_nx, b_rt, b_brk, b_cnt, b_calm, b_of, fin_ret, fin_nx, optV, clr, clrs, g_nm, g_tp, g_nil, g_cons, List.map_cons, List.map_nil, List.replicate, List.cons_append, List.nil_append, List.length_cons, List.length_nil, isObj, isLst, ownV, retS, List.any_cons, List.any_nil, Bool.or_false, Bool.false_eq_true, if_false, if_true, Option.map_some, Option.bind_some, cvOf, chg, Bool.not_true, Bool.not_false, decide_true, decide_false, reduceCtorEq, Bool.true_and, Bool.false_and, Bool.true_or, Bool.false_or, d_non, d_bl, d_int, d_str, d_tup, d_lst, d_fro, t_str, t_tup, t_lst, t_int, t_intb, t_blb, t_strt, t_strl, t_tups, t_tupl, t_lstt, t_lsts, q_eqs, q_nes, q_eqi, q_nei, q_lt, q_le, q_gt, q_ge, q_les, q_lts, q_in, q_nin, q_isn, q_ist, q_isl, q_iss, q_isi, q_sn, q_st, q_sl, q_ss, q_si, f_lens, f_lenl, f_lent, f_lenf, f_all, f_any, f_int, f_max, f_min, f_lstl, f_lstt, f_tupl, f_tupt, o_add, o_sub, o_adds, o_addl, o_addt, x_l, x_t, x_f, x_s, z_l, z_t, z_s, i_l, i_t, i_f, i_i, i_s, n_ss, n_l, n_t, m_f1, m_f2, m_j, a2_0, a2_1, a3_0, a3_1, a3_2, inL2, beq_self_eq_true, o_app, Bool.true_eq_false, k_0, k_1, k_2, k_3, Nat.reduceAdd, Nat.reduceSub, Int.reduceBEq, Int.reduceLT, Int.reduceLE, Int.reduceAdd, Int.reduceSub, Int.reduceNeg, d2])]
  rw [ex_step [s0, s1, .val (.ref j), s3, .val (.lst xs), .val (.lst ys), .val (.str F), s7, s8, s9, s10, s11, s12, s13] m2 (by simp only [exs, ex, ev, evs, evr, rdV, getS, setS, b_ok, b_st, b_nx, b_rt, b_brk, b_cnt, b_calm, b_of, fin_ret, fin_nx, optV, clr, clrs, g_nm, g_tp, g_nil, g_cons, List.map_cons, List.map_nil, List.replicate, List.cons_append, List.nil_append, List.length_cons, List.length_nil, isObj, isLst, ownV, retS, List.any_cons, List.any_nil, Bool.or_false, Bool.false_eq_true, if_false, if_true, Option.map_some, Option.bind_some, cvOf, chg, Bool.not_true, Bool.not_false, decide_true, decide_false, reduceCtorEq, Bool.true_and, Bool.false_and, Bool.true_or, Bool.false_or, d_non, d_bl, d_int, d_str, d_tup, d_lst, d_fro, t_str, t_tup, t_lst, t_int, t_intb, t_blb, t_strt, t_strl, t_tups, t_tupl, t_lstt, t_lsts, q_eqs, q_nes, q_eqi, q_nei, q_lt, q_le, q_gt, q_ge, q_les, q_lts, q_in, q_nin, q_isn, q_ist, q_isl, q_iss, q_isi, q_sn, q_st, q_sl, q_ss, q_si, f_lens, f_lenl, f_lent, f_lenf, f_all, f_any, f_int, f_max, f_min, f_lstl, f_lstt, f_tupl, f_tupt, o_add, o_sub, o_adds, o_addl, o_addt, x_l, x_t, x_f, x_s, z_l, z_t, z_s, i_l, i_t, i_f, i_i, i_s, n_ss, n_l, n_t, m_f1, m_f2, m_j, a2_0, a2_1, a3_0, a3_1, a3_2, inL2, beq_self_eq_true, o_app, Bool.true_eq_false, k_0, k_1, k_2, k_3, Nat.reduceAdd, Nat.reduceSub, Int.reduceBEq, Int.reduceLT, Int.reduceLE, Int.reduceAdd, Int.reduceSub, Int.reduceNeg, d3])]
  rw [ex_step [s0, s1, .val (.ref j), s3, .val (.lst xs), .val (.lst ys), .val (.str F), .val (.str W), s8, s9, s10, s11, s12, s13] m2 (by simp only [exs, ex, ev, evs, evr, rdV, getS, setS, b_ok, b_st, b_nx, b_rt, b_brk, b_cnt, b_calm, b_of, fin_ret, fin_nx, optV, clr, clrs, g_nm, g_tp, g_nil, g_cons, List.map_cons, List.map_nil, List.replicate, List.cons_append, List.nil_append, List.length_cons, List.length_nil, isObj, isLst, ownV, retS, List.any_cons, List.any_nil, Bool.or_false, Bool.false_eq_true, if_false, if_true, Option.map_some, Option.bind_some, cvOf, chg, Bool.not_true, Bool.not_false, decide_true, decide_false, reduceCtorEq, Bool.true_and, Bool.false_and, Bool.true_or, Bool.false_or, d_non, d_bl, d_int, d_str, d_tup, d_lst, d_fro, t_str, t_tup, t_lst, t_int, t_intb, t_blb, t_strt, t_strl, t_tups, t_tupl, t_lstt, t_lsts, q_eqs, q_nes, q_eqi, q_nei, q_lt, q_le, q_gt, q_ge, q_les, q_lts, q_in, q_nin, q_isn, q_ist, q_isl, q_iss, q_isi, q_sn, q_st, q_sl, q_ss, q_si, f_lens, f_lenl, f_lent, f_lenf, f_all, f_any, f_int, f_max, f_min, f_lstl, f_lstt, f_tupl, f_tupt, o_add, o_sub, o_adds, o_addl, o_addt, x_l, x_t, x_f, x_s, z_l, z_t, z_s, i_l, i_t, i_f, i_i, i_s, n_ss, n_l, n_t, m_f1, m_f2, m_j, a2_0, a2_1, a3_0, a3_1, a3_2, inL2, beq_self_eq_true, o_app, Bool.true_eq_false, k_0, k_1, k_2, k_3, Nat.reduceAdd, Nat.reduceSub, Int.reduceBEq, Int.reduceLT, Int.reduceLE, Int.reduceAdd, Int.reduceSub, Int.reduceNeg, d4, l1, hW])]
  rw [ex_step [s0, s1, .val (.ref j), s3, .val (.lst xs), .val (.lst ys), .val (.str F), .val (.str W), s8, s9, s10, s11, s12, s13] m2 (by simp only [exs, ex, ev, evs, evr, rdV, getS, setS, b_ok, b_st, b_nx, b_rt, b_brk, b_cnt, b_calm, b_of, fin_ret, fin_nx, optV, clr, clrs, g_nm, g_tp, g_nil, g_cons, List.map_cons, List.map_nil, List.replicate, List.cons_append, List.nil_append, List.length_cons, List.length_nil, isObj, isLst, ownV, retS, List.any_cons, List.any_nil, Bool.or_false, Bool.false_eq_true, if_false, if_true, Option.map_some, Option.bind_some, cvOf, chg, Bool.not_true, Bool.not_false, decide_true, decide_false, reduceCtorEq, Bool.true_and, Bool.false_and, Bool.true_or, Bool.false_or, d_non, d_bl, d_int, d_str, d_tup, d_lst, d_fro, t_str, t_tup, t_lst, t_int, t_intb, t_blb, t_strt, t_strl, t_tups, t_tupl, t_lstt, t_lsts, q_eqs, q_nes, q_eqi, q_nei, q_lt, q_le, q_gt, q_ge, q_les, q_lts, q_in, q_nin, q_isn, q_ist, q_isl, q_iss, q_isi, q_sn, q_st, q_sl, q_ss, q_si, f_lens, f_lenl, f_lent, f_lenf, f_all, f_any, f_int, f_max, f_min, f_lstl, f_lstt, f_tupl, f_tupt, o_add, o_sub, o_adds, o_addl, o_addt, x_l, x_t, x_f, x_s, z_l, z_t, z_s, i_l, i_t, i_f, i_i, i_s, n_ss, n_l, n_t, m_f1, m_f2, m_j, a2_0, a2_1, a3_0, a3_1, a3_2, inL2, beq_self_eq_true, o_app, Bool.true_eq_false, k_0, k_1, k_2, k_3, Nat.reduceAdd, Nat.reduceSub, Int.reduceBEq, Int.reduceLT, Int.reduceLE, Int.reduceAdd, Int.reduceSub, Int.reduceNeg, l2, d5, d6, d7, q1])]
  rw [ex_step [s0, s1, .val (.ref j), s3, .val (.lst xs), .val (.lst ys), .val (.str F), .val (.str W), .val (.lst pcs), s9, s10, s11, s12, s13] m2 (by simp only [exs, ex, ev, evs, evr, rdV, getS, setS, b_ok, b_st, b_nx, b_rt, b_brk, b_cnt, b_calm, b_of, fin_ret, fin_nx, optV, clr, clrs, g_nm, g_tp, g_nil, g_cons, List.map_cons, List.map_nil, List.replicate, List.cons_append, List.nil_append, List.length_cons, List.length_nil, isObj, isLst, ownV, retS, List.any_cons, List.any_nil, Bool.or_false, Bool.false_eq_true, if_false, if_true, Option.map_some, Option.bind_some, cvOf, chg, Bool.not_true, Bool.not_false, decide_true, decide_false, reduceCtorEq, Bool.true_and, Bool.false_and, Bool.true_or, Bool.false_or, d_non, d_bl, d_int, d_str, d_tup, d_lst, d_fro, t_str, t_tup, t_lst, t_int, t_intb, t_blb, t_strt, t_strl, t_tups, t_tupl, t_lstt, t_lsts, q_eqs, q_nes, q_eqi, q_nei, q_lt, q_le, q_gt, q_ge, q_les, q_lts, q_in, q_nin, q_isn, q_ist, q_isl, q_iss, q_isi, q_sn, q_st, q_sl, q_ss, q_si, f_lens, f_lenl, f_lent, f_lenf, f_all, f_any, f_int, f_max, f_min, f_lstl, f_lstt, f_tupl, f_tupt, o_add, o_sub, o_adds, o_addl, o_addt, x_l, x_t, x_f, x_s, z_l, z_t, z_s, i_l, i_t, i_f, i_i, i_s, n_ss, n_l, n_t, m_f1, m_f2, m_j, a2_0, a2_1, a3_0, a3_1, a3_2, inL2, beq_self_eq_true, o_app, Bool.true_eq_false, k_0, k_1, k_2, k_3, Nat.reduceAdd, Nat.reduceSub, Int.reduceBEq, Int.reduceLT, Int.reduceLE, Int.reduceAdd, Int.reduceSub, Int.reduceNeg, d8])]
  rw [ex_step [s0, s1, .val (.ref j), s3, .val (.lst xs), .val (.lst ys), .val (.str F), .val (.str W), .val (.lst pcs), .val (.lst zs), s10, s11, s12, s13] m2 (by simp only [exs, ex, ev, evs, evr, rdV, getS, setS, b_ok, b_st, b_nx, b_rt, b_brk, b_cnt, b_calm, b_of, fin_ret, fin_nx, optV, clr, clrs, g_nm, g_tp, g_nil, g_cons, List.map_cons, List.map_nil, List.replicate, List.cons_append, List.nil_append, List.length_cons, List.length_nil, isObj, isLst, ownV, retS, List.any_cons, List.any_nil, Bool.or_false, Bool.false_eq_true, if_false, if_true, Option.map_some, Option.bind_some, cvOf, chg, Bool.not_true, Bool.not_false, decide_true, decide_false, reduceCtorEq, Bool.true_and, Bool.false_and, Bool.true_or, Bool.false_or, d_non, d_bl, d_int, d_str, d_tup, d_lst, d_fro, t_str, t_tup, t_lst, t_int, t_intb, t_blb, t_strt, t_strl, t_tups, t_tupl, t_lstt, t_lsts, q_eqs, q_nes, q_eqi, q_nei, q_lt, q_le, q_gt, q_ge, q_les, q_lts, q_in, q_nin, q_isn, q_ist, q_isl, q_iss, q_isi, q_sn, q_st, q_sl, q_ss, q_si, f_lens, f_lenl, f_lent, f_lenf, f_all, f_any, f_int, f_max, f_min, f_lstl, f_lstt, f_tupl, f_tupt, o_add, o_sub, o_adds, o_addl, o_addt, x_l, x_t, x_f, x_s, z_l, z_t, z_s, i_l, i_t, i_f, i_i, i_s, n_ss, n_l, n_t, m_f1, m_f2, m_j, a2_0, a2_1, a3_0, a3_1, a3_2, inL2, beq_self_eq_true, o_app, Bool.true_eq_false, k_0, k_1, k_2, k_3, Nat.reduceAdd, Nat.reduceSub, Int.reduceBEq, Int.reduceLT, Int.reduceLE, Int.reduceAdd, Int.reduceSub, Int.reduceNeg, d6])]
  rw [ex_step [s0, s1, .val (.ref j), s3, .val (.lst xs), .val (.lst ys), .val (.str F), .val (.str W), .val (.lst pcs), .val (.lst zs), s10, s11, s12, s13] m2 (by simp only [exs, ex, ev, evs, evr, rdV, getS, setS, b_ok, b_st, b_nx, b_rt, b_brk, b_cnt, b_calm, b_of, fin_ret, fin_nx, optV, clr, clrs, g_nm, g_tp, g_nil, g_cons, List.map_cons, List.map_nil, List.replicate, List.cons_append, List.nil_append, List.length_cons, List.length_nil, isObj, isLst, ownV, retS, List.any_cons, List.any_nil, Bool.or_false, Bool.false_eq_true, if_false, if_true, Option.map_some, Option.bind_some, cvOf, chg, Bool.not_true, Bool.not_false, decide_true, decide_false, reduceCtorEq, Bool.true_and, Bool.false_and, Bool.true_or, Bool.false_or, d_non, d_bl, d_int, d_str, d_tup, d_lst, d_fro, t_str, t_tup, t_lst, t_int, t_intb, t_blb, t_strt, t_strl, t_tups, t_tupl, t_lstt, t_lsts, q_eqs, q_nes, q_eqi, q_nei, q_lt, q_le, q_gt, q_ge, q_les, q_lts, q_in, q_nin, q_isn, q_ist, q_isl, q_iss, q_isi, q_sn, q_st, q_sl, q_ss, q_si, f_lens, f_lenl, f_lent, f_lenf, f_all, f_any, f_int, f_max, f_min, f_lstl, f_lstt, f_tupl, f_tupt, o_add, o_sub, o_adds, o_addl, o_addt, x_l, x_t, x_f, x_s, z_l, z_t, z_s, i_l, i_t, i_f, i_i, i_s, n_ss, n_l, n_t, m_f1, m_f2, m_j, a2_0, a2_1, a3_0, a3_1, a3_2, inL2, beq_self_eq_true, o_app, Bool.true_eq_false, k_0, k_1, k_2, k_3, Nat.reduceAdd, Nat.reduceSub, Int.reduceBEq, Int.reduceLT, Int.reduceLE, Int.reduceAdd, Int.reduceSub, Int.reduceNeg, hl])]
  rw [ex_step [s0, s1, .val (.ref j), s3, .val (.lst xs), .val (.lst ys), .val (.str F), .val (.str W), .val (.lst pcs), .val (.lst zs), .val (.int 0), s11, s12, s13] m2 (by simp only [exs, ex, ev, evs, evr, rdV, getS, setS, b_ok, b_st, b_nx, b_rt, b_brk, b_cnt, b_calm, b_of, fin_ret, fin_nx, optV, clr, clrs, g_nm, g_tp, g_nil, g_cons, List.map_cons, List.map_nil, List.replicate, List.cons_append, List.nil_append, List.length_cons, List.length_nil, isObj, isLst, ownV, retS, List.any_cons, List.any_nil, Bool.or_false, Bool.false_eq_true, if_false, if_true, Option.map_some, Option.bind_some, cvOf, chg, Bool.not_true, Bool.not_false, decide_true, decide_false, reduceCtorEq, Bool.true_and, Bool.false_and, Bool.true_or, Bool.false_or, d_non, d_bl, d_int, d_str, d_tup, d_lst, d_fro, t_str, t_tup, t_lst, t_int, t_intb, t_blb, t_strt, t_strl, t_tups, t_tupl, t_lstt, t_lsts, q_eqs, q_nes, q_eqi, q_nei, q_lt, q_le, q_gt, q_ge, q_les, q_lts, q_in, q_nin, q_isn, q_ist, q_isl, q_iss, q_isi, q_sn, q_st, q_sl, q_ss, q_si, f_lens, f_lenl, f_lent, f_lenf, f_all, f_any, f_int, f_max, f_min, f_lstl, f_lstt, f_tupl, f_tupt, o_add, o_sub, o_adds, o_addl, o_addt, x_l, x_t, x_f, x_s, z_l, z_t, z_s, i_l, i_t, i_f, i_i, i_s, n_ss, n_l, n_t, m_f1, m_f2, m_j, a2_0, a2_1, a3_0, a3_1, a3_2, inL2, beq_self_eq_true, o_app, Bool.true_eq_false, k_0, k_1, k_2, k_3, Nat.reduceAdd, Nat.reduceSub, Int.reduceBEq, Int.reduceLT, Int.reduceLE, Int.reduceAdd, Int.reduceSub, Int.reduceNeg])]
  rw [ex_step [s0, s1, .val (.ref j), s3, .val (.lst xs), .val (.lst ys), .val (.str F), .val (.str W), .val (.lst pcs), .val (.lst zs), .val (.int (W.length : Nat)), a, b, c] m2 (ex_for (ev_rng1 (k := (pcs.length : Nat)) (by simp only [exs, ex, ev, evs, evr, rdV, getS, setS, b_ok, b_st, b_nx, b_rt, b_brk, b_cnt, b_calm, b_of, fin_ret, fin_nx, optV, clr, clrs, g_nm, g_tp, g_nil, g_cons, List.map_cons, List.map_nil, List.replicate, List.cons_append, List.nil_append, List.length_cons, List.length_nil, isObj, isLst, ownV, retS, List.any_cons, List.any_nil, Bool.or_false, Bool.false_eq_true, if_false, if_true, Option.map_some, Option.bind_some, cvOf, chg, Bool.not_true, Bool.not_false, decide_true, decide_false, reduceCtorEq, Bool.true_and, Bool.false_and, Bool.true_or, Bool.false_or, d_non, d_bl, d_int, d_str, d_tup, d_lst, d_fro, t_str, t_tup, t_lst, t_int, t_intb, t_blb, t_strt, t_strl, t_tups, t_tupl, t_lstt, t_lsts, q_eqs, q_nes, q_eqi, q_nei, q_lt, q_le, q_gt, q_ge, q_les, q_lts, q_in, q_nin, q_isn, q_ist, q_isl, q_iss, q_isi, q_sn, q_st, q_sl, q_ss, q_si, f_lens, f_lenl, f_lent, f_lenf, f_all, f_any, f_int, f_max, f_min, f_lstl, f_lstt, f_tupl, f_tupt, o_add, o_sub, o_adds, o_addl, o_addt, x_l, x_t, x_f, x_s, z_l, z_t, z_s, i_l, i_t, i_f, i_i, i_s, n_ss, n_l, n_t, m_f1, m_f2, m_j, a2_0, a2_1, a3_0, a3_1, a3_2, inL2, beq_self_eq_true, o_app, Bool.true_eq_false, k_0, k_1, k_2, k_3, Nat.reduceAdd, Nat.reduceSub, Int.reduceBEq, Int.reduceLT, Int.reduceLE, Int.reduceAdd, Int.reduceSub, Int.reduceNeg]) (by omega) (by omega)) rfl hf)]
  rw [ex_step [s0, s1, .val (.ref j), s3, .val (.lst xs), .val (.lst ys), .val (.str F), .val (.str W), .val (.lst pcs), .val (.lst zs), .val (.int (W.length : Nat)), a, b, c] m2 (by simp only [exs, ex, ev, evs, evr, rdV, getS, setS, b_ok, b_st, b_nx, b_rt, b_brk, b_cnt, b_calm, b_of, fin_ret, fin_nx, optV, clr, clrs, g_nm, g_tp, g_nil, g_cons, List.map_cons, List.map_nil, List.replicate, List.cons_append, List.nil_append, List.length_cons, List.length_nil, isObj, isLst, ownV, retS, List.any_cons, List.any_nil, Bool.or_false, Bool.false_eq_true, if_false, if_true, Option.map_some, Option.bind_some, cvOf, chg, Bool.not_true, Bool.not_false, decide_true, decide_false, reduceCtorEq, Bool.true_and, Bool.false_and, Bool.true_or, Bool.false_or, d_non, d_bl, d_int, d_str, d_tup, d_lst, d_fro, t_str, t_tup, t_lst, t_int, t_intb, t_blb, t_strt, t_strl, t_tups, t_tupl, t_lstt, t_lsts, q_eqs, q_nes, q_eqi, q_nei, q_lt, q_le, q_gt, q_ge, q_les, q_lts, q_in, q_nin, q_isn, q_ist, q_isl, q_iss, q_isi, q_sn, q_st, q_sl, q_ss, q_si, f_lens, f_lenl, f_lent, f_lenf, f_all, f_any, f_int, f_max, f_min, f_lstl, f_lstt, f_tupl, f_tupt, o_add, o_sub, o_adds, o_addl, o_addt, x_l, x_t, x_f, x_s, z_l, z_t, z_s, i_l, i_t, i_f, i_i, i_s, n_ss, n_l, n_t, m_f1, m_f2, m_j, a2_0, a2_1, a3_0, a3_1, a3_2, inL2, beq_self_eq_true, o_app, Bool.true_eq_false, k_0, k_1, k_2, k_3, Nat.reduceAdd, Nat.reduceSub, Int.reduceBEq, Int.reduceLT, Int.reduceLE, Int.reduceAdd, Int.reduceSub, Int.reduceNeg, d9, q2]), ex_nil]
theorem wr_len {b : Nat} : ∀ {l : List Tk}, (∀ t ∈ l, t.wr.length ≤ b) → (wrs l).length ≤ b * l.length
  | [], _ => by simp [wrs]
  | t :: l, h => by
    have h1 := h t List.mem_cons_self
    have h2 := wr_len (l := l) fun x hx => h x (List.mem_cons_of_mem _ hx)
    simp only [wrs, List.length_append, List.length_cons, Nat.mul_add, Nat.mul_one]
    omega
theorem turn_ok {j : Nat} {cc : Int} {m' : Mem} {s0 s1 s3 s4 s5 s6 s7 s8 s9 s10 s11 s12 s13 : SV} (hw : 1000 ≤ wf) (hjl : j < m.length) (hM : Mm m j m' cc) (hcc : cc < 600000) :
    ∃ t4 t5 t6 t7 t8 t9 t10 t11 t12 t13 m2, Mm m j m2 (cc + 800) ∧ exs (cvOf G wf (n + 5)) f_law_b2 (tnS s0 s1 j s3 s4 s5 s6 s7 s8 s9 s10 s11 s12 s13) m' = .ok .nx (tnS s0 s1 j s3 t4 t5 t6 t7 t8 t9 t10 t11 t12 t13) m2 := by
  obtain ⟨one, m1, D1, M1', d1⟩ := c_tokens_drawn (wf := wf) (n := n + 3) (k := 40) hjl hM (by omega) (by decide)
  obtain ⟨two, m2, D2, M2', d2⟩ := c_tokens_drawn (wf := wf) (n := n + 3) (k := 20) hjl M1' (by omega) (by decide)
  obtain ⟨S, eW⟩ := both_ok D1 D2
  have y1 := wr_len fun t h => (D1.ok t h).2
  have y2 := wr_len fun t h => (D2.ok t h).2
  have u1 := D1.len
  have u2 := D2.len
  have u3 := S.len
  have z1 : (wrs one).length ≤ 320 := by omega
  have z2 : (wrs two).length ≤ 160 := by omega
  have LIMe : LIM = 16777216 := rfl
  have sh : ∀ {l : List Tk} {k b : Nat}, (∀ t ∈ l, t.ok = true ∧ t.wr.length ≤ b) → b ≤ 1000 → ∀ t ∈ l, t.wr.length ≤ 1000 := fun h hb t ht => Nat.le_trans (h t ht).2 hb
  have okAll : ∀ t ∈ one ++ two, t.ok = true ∧ t.wr.length ≤ 8 := fun t ht => (List.mem_append.mp ht).elim (D1.ok t) (D2.ok t)
  have gS : Good (bothT one two) := ⟨fun t h => (S.ok t h).1, S.sp⟩
  have g1 : Good one := ⟨fun t h => (D1.ok t h).1, D1.sp⟩
  have d3 := c_text_of (wf := wf) (n := n + 1) (m := m2) (l := one) g1.ok (fun t h => by have := (D1.ok t h).2; omega) (by omega)
  have d4 := c_text_of (wf := wf) (n := n + 1) (m := m2) (l := two) (fun t h => (D2.ok t h).1) (fun t h => by have := (D2.ok t h).2; omega) (by omega)
  have d5 := c_text_of (wf := wf) (n := n + 1) (m := m2) (l := one ++ two) (fun t h => (okAll t h).1) (fun t h => by have := (okAll t h).2; omega) (by rw [wrs_append, List.length_append]; omega)
  rw [List.map_append, wrs_append] at d5
  have d6 := c_tokens_of (wf := wf) (n := n) (m := m2) gS (by omega) (by omega)
  have d8 := c_places_of (wf := wf) (n := n) (m := m2) gS (by omega) (by omega)
  rw [eW] at d6 d8
  have d7 := c_both (wf := wf) (n := n + 4) (m := m2) D1 D2 (by decide)
  have d9 := c_tokens_of (wf := wf) (n := n) (m := m2) g1 (by omega) (by omega)
  have hf := loop_b1 (wf := wf) (n := n) (m := m2) (s0 := s0) (s1 := s1) (s2 := .val (.ref j)) (s3 := s3) (s4 := .val (.lst (one.map Tk.d))) (s5 := .val (.lst (two.map Tk.d))) (s6 := .val (.str (wrs one))) (s11 := s11) (s12 := s12) (s13 := s13) S.ok (by omega)
  rw [eW] at hf
  obtain ⟨t4, t5, t6, t7, t8, t9, t10, t11, t12, t13, e⟩ := turn_gen (s4 := s4) (s5 := s5) (s6 := s6) (s7 := s7) (s8 := s8) (s9 := s9) (s10 := s10) d1 d2 d3 d4 (by omega) rfl (by simp; omega) d5 d6 d7 q_same q_same d8 (by simp [ends_len]) (by simp [ends_len]; omega) d9 hf
  refine ⟨t4, t5, t6, t7, t8, t9, t10, t11, t12, t13, m2, ?_, e⟩
  have ee : cc + 400 + 400 = cc + 800 := by omega
  rw [← ee]
  exact M2'
end Lt

set_option linter.all false
set_option maxRecDepth 100000
set_option maxHeartbeats 4000000
namespace Lt
variable {wf n : Nat} {m : Mem}
theorem b3_ok {ns : List Int} {k : Nat} (hk : k ≤ 6) (hw : 1000 ≤ wf) {s2 s3 s4 s5 s6 s7 s8 s9 s10 s11 s12 s13 : SV} :
    ∃ t2 t3 t4 t5 t6 t7 t8 t9 t10 t11 t12 t13 m2, exs (cvOf G wf (n + 5)) f_law_b3 [.val (.fro (ns.map .int)), .val (.int (k : Nat)), s2, s3, s4, s5, s6, s7, s8, s9, s10, s11, s12, s13] m =
      .ok .nx [.val (.fro (ns.map .int)), .val (.int (k : Nat)), t2, t3, t4, t5, t6, t7, t8, t9, t10, t11, t12, t13] m2 := by
  obtain ⟨z, d1⟩ := c_cell (wf := wf) (n := n + 4) (m := m) (ns := ns) (k := k)
  obtain ⟨a, b, ok, d2⟩ := c_source (wf := wf) (n := n + 4) (m := m) (z := z) (k := k) hk
  have hjl : m.length < (m ++ [src a b 0]).length := by simp
  have hM : Mm (m ++ [src a b 0]) m.length (m ++ [src a b 0]) 0 := ⟨a, b, 0, by simp, ok, Int.le_refl _⟩
  obtain ⟨sl', m2, e1, ⟨t3, t4, t5, t6, t7, t8, t9, t10, t11, t12, t13, rfl, hM2⟩⟩ := forGo_inv (t := .nm 3) (body := exs (cvOf G wf (n + 5)) f_law_b2) (xs := rangeD 0 3)
    (fun i sl mx => ∃ s3 s4 s5 s6 s7 s8 s9 s10 s11 s12 s13, sl = tnS (.val (.fro (ns.map .int))) (.val (.int (k : Nat))) m.length s3 s4 s5 s6 s7 s8 s9 s10 s11 s12 s13 ∧ Mm (m ++ [src a b 0]) m.length mx (800 * (i : Nat)))
    (fun i x sl mx hx ⟨s3, s4, s5, s6, s7, s8, s9, s10, s11, s12, s13, e, hMx⟩ => by
      subst e
      obtain ⟨rfl, hi⟩ := rangeD_get hx
      obtain ⟨t4, t5, t6, t7, t8, t9, t10, t11, t12, t13, m3, hM3, st⟩ := turn_ok (wf := wf) (n := n) (s0 := .val (.fro (ns.map .int))) (s1 := .val (.int (k : Nat))) (s3 := .val (.int (0 + (i : Nat)))) (s4 := s4) (s5 := s5) (s6 := s6) (s7 := s7) (s8 := s8) (s9 := s9) (s10 := s10) (s11 := s11) (s12 := s12) (s13 := s13) hw hjl hMx (by omega)
      refine ⟨_, _, m3, g_nm, .inl st, _, t4, t5, t6, t7, t8, t9, t10, t11, t12, t13, rfl, ?_⟩
      have ee : 800 * ((i + 1 : Nat) : Int) = 800 * (i : Nat) + 800 := by omega
      rw [ee]
      exact hM3)
    (sl := tnS (.val (.fro (ns.map .int))) (.val (.int (k : Nat))) m.length s3 s4 s5 s6 s7 s8 s9 s10 s11 s12 s13) (m := m ++ [src a b 0]) ⟨_, _, _, _, _, _, _, _, _, _, _, rfl, hM⟩
  refine ⟨.val (.ref m.length), t3, t4, t5, t6, t7, t8, t9, t10, t11, t12, t13, m2, ?_⟩
  simp only [f_law_b3]
  rw [ex_step (tnS (.val (.fro (ns.map .int))) (.val (.int (k : Nat))) m.length s3 s4 s5 s6 s7 s8 s9 s10 s11 s12 s13) (m ++ [src a b 0]) (by simp only [exs, ex, ev, evs, evr, rdV, getS, setS, b_ok, b_st, b_nx, b_rt, b_brk, b_cnt, b_calm, b_of, fin_ret, fin_nx, optV, clr, clrs, g_nm, g_tp, g_nil, g_cons, List.map_cons, List.map_nil, List.replicate, List.cons_append, List.nil_append, List.length_cons, List.length_nil, isObj, isLst, ownV, retS, List.any_cons, List.any_nil, Bool.or_false, Bool.false_eq_true, if_false, if_true, Option.map_some, Option.bind_some, cvOf, chg, Bool.not_true, Bool.not_false, decide_true, decide_false, reduceCtorEq, Bool.true_and, Bool.false_and, Bool.true_or, Bool.false_or, d_non, d_bl, d_int, d_str, d_tup, d_lst, d_fro, t_str, t_tup, t_lst, t_int, t_intb, t_blb, t_strt, t_strl, t_tups, t_tupl, t_lstt, t_lsts, q_eqs, q_nes, q_eqi, q_nei, q_lt, q_le, q_gt, q_ge, q_les, q_lts, q_in, q_nin, q_isn, q_ist, q_isl, q_iss, q_isi, q_sn, q_st, q_sl, q_ss, q_si, f_lens, f_lenl, f_lent, f_lenf, f_all, f_any, f_int, f_max, f_min, f_lstl, f_lstt, f_tupl, f_tupt, o_add, o_sub, o_adds, o_addl, o_addt, x_l, x_t, x_f, x_s, z_l, z_t, z_s, i_l, i_t, i_f, i_i, i_s, n_ss, n_l, n_t, m_f1, m_f2, m_j, a2_0, a2_1, a3_0, a3_1, a3_2, inL2, beq_self_eq_true, o_app, Bool.true_eq_false, k_0, k_1, k_2, k_3, Nat.reduceAdd, Nat.reduceSub, Int.reduceBEq, Int.reduceLT, Int.reduceLE, Int.reduceAdd, Int.reduceSub, Int.reduceNeg, d1, d2, tnS])]
  rw [ex_step (tnS (.val (.fro (ns.map .int))) (.val (.int (k : Nat))) m.length t3 t4 t5 t6 t7 t8 t9 t10 t11 t12 t13) m2 (ex_for (ev_rng1 (k := 3) (by simp only [exs, ex, ev, evs, evr, rdV, getS, setS, b_ok, b_st, b_nx, b_rt, b_brk, b_cnt, b_calm, b_of, fin_ret, fin_nx, optV, clr, clrs, g_nm, g_tp, g_nil, g_cons, List.map_cons, List.map_nil, List.replicate, List.cons_append, List.nil_append, List.length_cons, List.length_nil, isObj, isLst, ownV, retS, List.any_cons, List.any_nil, Bool.or_false, Bool.false_eq_true, if_false, if_true, Option.map_some, Option.bind_some, cvOf, chg, Bool.not_true, Bool.not_false, decide_true, decide_false, reduceCtorEq, Bool.true_and, Bool.false_and, Bool.true_or, Bool.false_or, d_non, d_bl, d_int, d_str, d_tup, d_lst, d_fro, t_str, t_tup, t_lst, t_int, t_intb, t_blb, t_strt, t_strl, t_tups, t_tupl, t_lstt, t_lsts, q_eqs, q_nes, q_eqi, q_nei, q_lt, q_le, q_gt, q_ge, q_les, q_lts, q_in, q_nin, q_isn, q_ist, q_isl, q_iss, q_isi, q_sn, q_st, q_sl, q_ss, q_si, f_lens, f_lenl, f_lent, f_lenf, f_all, f_any, f_int, f_max, f_min, f_lstl, f_lstt, f_tupl, f_tupt, o_add, o_sub, o_adds, o_addl, o_addt, x_l, x_t, x_f, x_s, z_l, z_t, z_s, i_l, i_t, i_f, i_i, i_s, n_ss, n_l, n_t, m_f1, m_f2, m_j, a2_0, a2_1, a3_0, a3_1, a3_2, inL2, beq_self_eq_true, o_app, Bool.true_eq_false, k_0, k_1, k_2, k_3, Nat.reduceAdd, Nat.reduceSub, Int.reduceBEq, Int.reduceLT, Int.reduceLE, Int.reduceAdd, Int.reduceSub, Int.reduceNeg]) (by decide) (by decide)) rfl e1), ex_nil]
theorem law_gen {ns : List Int} (hw : 1000 ≤ wf) : ∃ mem, call G wf (n + 6) "law" [.fro (ns.map .int)] m = .ok (.bl true) mem := by
  obtain ⟨K, hK0, hK, eK⟩ : ∃ K : Int, 0 ≤ K ∧ K ≤ 6 ∧ ∀ mx : Mem, ev (cvOf G wf (n + 5)) (.blt .max2 [.lit (.int 1), .blt .min2 [.lit (.int 6), .blt .len [.var 0]]]) [.val (.fro (ns.map .int)), .no, .no, .no, .no, .no, .no, .no, .no, .no, .no, .no, .no, .no] mx = .ok (.int K) mx := by
    refine ⟨if (if (((ns.map D.int).length : Nat) : Int) < 6 then (((ns.map D.int).length : Nat) : Int) else 6) > 1 then (if (((ns.map D.int).length : Nat) : Int) < 6 then (((ns.map D.int).length : Nat) : Int) else 6) else 1, ?_, ?_, fun mx => ?_⟩
    · split <;> first | omega | (split <;> omega)
    · split <;> first | omega | (split <;> omega)
    · simp only [exs, ex, ev, evs, evr, rdV, getS, setS, b_ok, b_st, b_nx, b_rt, b_brk, b_cnt, b_calm, b_of, fin_ret, fin_nx, optV, clr, clrs, g_nm, g_tp, g_nil, g_cons, List.map_cons, List.map_nil, List.replicate, List.cons_append, List.nil_append, List.length_cons, List.length_nil, isObj, isLst, ownV, retS, List.any_cons, List.any_nil, Bool.or_false, Bool.false_eq_true, if_false, if_true, Option.map_some, Option.bind_some, cvOf, chg, Bool.not_true, Bool.not_false, decide_true, decide_false, reduceCtorEq, Bool.true_and, Bool.false_and, Bool.true_or, Bool.false_or, d_non, d_bl, d_int, d_str, d_tup, d_lst, d_fro, t_str, t_tup, t_lst, t_int, t_intb, t_blb, t_strt, t_strl, t_tups, t_tupl, t_lstt, t_lsts, q_eqs, q_nes, q_eqi, q_nei, q_lt, q_le, q_gt, q_ge, q_les, q_lts, q_in, q_nin, q_isn, q_ist, q_isl, q_iss, q_isi, q_sn, q_st, q_sl, q_ss, q_si, f_lens, f_lenl, f_lent, f_lenf, f_all, f_any, f_int, f_max, f_min, f_lstl, f_lstt, f_tupl, f_tupt, o_add, o_sub, o_adds, o_addl, o_addt, x_l, x_t, x_f, x_s, z_l, z_t, z_s, i_l, i_t, i_f, i_i, i_s, n_ss, n_l, n_t, m_f1, m_f2, m_j, a2_0, a2_1, a3_0, a3_1, a3_2, inL2, beq_self_eq_true, o_app, Bool.true_eq_false, k_0, k_1, k_2, k_3, Nat.reduceAdd, Nat.reduceSub, Int.reduceBEq, Int.reduceLT, Int.reduceLE, Int.reduceAdd, Int.reduceSub, Int.reduceNeg]
  obtain ⟨sl', m2, e1, ⟨t1, t2, t3, t4, t5, t6, t7, t8, t9, t10, t11, t12, t13, rfl⟩⟩ := forGo_inv (t := .nm 1) (body := exs (cvOf G wf (n + 5)) f_law_b3) (xs := rangeD 0 K)
    (fun i sl mx => ∃ s1 s2 s3 s4 s5 s6 s7 s8 s9 s10 s11 s12 s13, sl = [.val (.fro (ns.map .int)), s1, s2, s3, s4, s5, s6, s7, s8, s9, s10, s11, s12, s13])
    (fun i x sl mx hx ⟨s1, s2, s3, s4, s5, s6, s7, s8, s9, s10, s11, s12, s13, e⟩ => by
      subst e
      obtain ⟨rfl, hi⟩ := rangeD_get hx
      obtain ⟨t2, t3, t4, t5, t6, t7, t8, t9, t10, t11, t12, t13, m3, st⟩ := b3_ok (wf := wf) (n := n) (m := mx) (ns := ns) (k := i) (by omega) hw (s2 := s2) (s3 := s3) (s4 := s4) (s5 := s5) (s6 := s6) (s7 := s7) (s8 := s8) (s9 := s9) (s10 := s10) (s11 := s11) (s12 := s12) (s13 := s13)
      have z : (0 : Int) + (i : Nat) = (i : Nat) := by omega
      rw [z]
      exact ⟨_, _, m3, g_nm, .inl st, _, _, _, _, _, _, _, _, _, _, _, _, _, rfl⟩)
    (sl := [.val (.fro (ns.map .int)), .no, .no, .no, .no, .no, .no, .no, .no, .no, .no, .no, .no, .no]) (m := m) ⟨_, _, _, _, _, _, _, _, _, _, _, _, _, rfl⟩
  refine ⟨m2, ?_⟩
  rw [call_eq G_law rfl]
  show fin (exs (cvOf G wf (n + 5)) f_law.body [.val (.fro (ns.map .int)), .no, .no, .no, .no, .no, .no, .no, .no, .no, .no, .no, .no, .no] m) = _
  simp only [f_law]
  rw [ex_step [.val (.fro (ns.map .int)), t1, t2, t3, t4, t5, t6, t7, t8, t9, t10, t11, t12, t13] m2 (ex_for (ev_rng1 (eK m) hK0 (by omega)) rfl e1)]
  rw [ex_ret (.bl true) [.val (.fro (ns.map .int)), t1, t2, t3, t4, t5, t6, t7, t8, t9, t10, t11, t12, t13] m2 (by simp only [exs, ex, ev, evs, evr, rdV, getS, setS, b_ok, b_st, b_nx, b_rt, b_brk, b_cnt, b_calm, b_of, fin_ret, fin_nx, optV, clr, clrs, g_nm, g_tp, g_nil, g_cons, List.map_cons, List.map_nil, List.replicate, List.cons_append, List.nil_append, List.length_cons, List.length_nil, isObj, isLst, ownV, retS, List.any_cons, List.any_nil, Bool.or_false, Bool.false_eq_true, if_false, if_true, Option.map_some, Option.bind_some, cvOf, chg, Bool.not_true, Bool.not_false, decide_true, decide_false, reduceCtorEq, Bool.true_and, Bool.false_and, Bool.true_or, Bool.false_or, d_non, d_bl, d_int, d_str, d_tup, d_lst, d_fro, t_str, t_tup, t_lst, t_int, t_intb, t_blb, t_strt, t_strl, t_tups, t_tupl, t_lstt, t_lsts, q_eqs, q_nes, q_eqi, q_nei, q_lt, q_le, q_gt, q_ge, q_les, q_lts, q_in, q_nin, q_isn, q_ist, q_isl, q_iss, q_isi, q_sn, q_st, q_sl, q_ss, q_si, f_lens, f_lenl, f_lent, f_lenf, f_all, f_any, f_int, f_max, f_min, f_lstl, f_lstt, f_tupl, f_tupt, o_add, o_sub, o_adds, o_addl, o_addt, x_l, x_t, x_f, x_s, z_l, z_t, z_s, i_l, i_t, i_f, i_i, i_s, n_ss, n_l, n_t, m_f1, m_f2, m_j, a2_0, a2_1, a3_0, a3_1, a3_2, inL2, beq_self_eq_true, o_app, Bool.true_eq_false, k_0, k_1, k_2, k_3, Nat.reduceAdd, Nat.reduceSub, Int.reduceBEq, Int.reduceLT, Int.reduceLE, Int.reduceAdd, Int.reduceSub, Int.reduceNeg])]
  rfl
def lvl : Nat := 20
def wfN : Nat := 1000000
theorem law_true : ∀ ns : List Int, ns.length ≤ 63 → ∃ mem, call G wfN lvl "law" [.fro (ns.map .int)] [] = .ok (.bl true) mem :=
  fun ns _ => law_gen (n := 14) (by decide)
end Lt

set_option maxHeartbeats 0
namespace Lt
open PySem PySem.Spec PyProof.Rows L2
def top (i : Nat) : Stmt := PySem.Challenge.pw_looseends_k02_whole_texts_and_tokens.main.body.getD i (.Pass ⟨0, 0, 0, 0⟩)
abbrev s_is_name : Stmt := top 10
def N_is_name : List Str := [Str.ofString "value", Str.ofString "letter"]
def d_is_name : He.DefD := ⟨("is_name", none), "is_name", "is_name", defArgs s_is_name, defBody s_is_name, defScope s_is_name, [], []⟩
theorem sc_is_name : FnScope N_is_name (pst f_is_name.ps) (defScope s_is_name) := ⟨rfl, rfl, rfl, by decide +kernel, rfl, by decide +kernel, by decide +kernel⟩
theorem ck_is_name : chkB f_is_name.body (ckOf G N_is_name (defScope s_is_name)) f_is_name.fresh (defBody s_is_name) = true := by decide +kernel
abbrev s_is_signs : Stmt := top 11
def N_is_signs : List Str := [Str.ofString "value", Str.ofString "sign"]
def d_is_signs : He.DefD := ⟨("is_signs", none), "is_signs", "is_signs", defArgs s_is_signs, defBody s_is_signs, defScope s_is_signs, [], []⟩
theorem sc_is_signs : FnScope N_is_signs (pst f_is_signs.ps) (defScope s_is_signs) := ⟨rfl, rfl, rfl, by decide +kernel, rfl, by decide +kernel, by decide +kernel⟩
theorem ck_is_signs : chkB f_is_signs.body (ckOf G N_is_signs (defScope s_is_signs)) f_is_signs.fresh (defBody s_is_signs) = true := by decide +kernel
abbrev s_is_token : Stmt := top 12
def N_is_token : List Str := [Str.ofString "value"]
def d_is_token : He.DefD := ⟨("is_token", none), "is_token", "is_token", defArgs s_is_token, defBody s_is_token, defScope s_is_token, [], []⟩
theorem sc_is_token : FnScope N_is_token (pst f_is_token.ps) (defScope s_is_token) := ⟨rfl, rfl, rfl, by decide +kernel, rfl, by decide +kernel, by decide +kernel⟩
theorem ck_is_token : chkB f_is_token.body (ckOf G N_is_token (defScope s_is_token)) f_is_token.fresh (defBody s_is_token) = true := by decide +kernel
abbrev s_tag_in : Stmt := top 13
def N_tag_in : List Str := [Str.ofString "inner", Str.ofString "word", Str.ofString "name"]
def d_tag_in : He.DefD := ⟨("tag_in", none), "tag_in", "tag_in", defArgs s_tag_in, defBody s_tag_in, defScope s_tag_in, [], []⟩
theorem sc_tag_in : FnScope N_tag_in (pst f_tag_in.ps) (defScope s_tag_in) := ⟨rfl, rfl, rfl, by decide +kernel, rfl, by decide +kernel, by decide +kernel⟩
theorem ck_tag_in : chkB f_tag_in.body (ckOf G N_tag_in (defScope s_tag_in)) f_tag_in.fresh (defBody s_tag_in) = true := by decide +kernel
abbrev s_pieces_in : Stmt := top 14
def N_pieces_in : List Str := [Str.ofString "text", Str.ofString "found", Str.ofString "at", Str.ofString "behind", Str.ofString "token"]
def d_pieces_in : He.DefD := ⟨("pieces_in", none), "pieces_in", "pieces_in", defArgs s_pieces_in, defBody s_pieces_in, defScope s_pieces_in, [], []⟩
theorem sc_pieces_in : FnScope N_pieces_in (pst f_pieces_in.ps) (defScope s_pieces_in) := ⟨rfl, rfl, rfl, by decide +kernel, rfl, by decide +kernel, by decide +kernel⟩
theorem ck_pieces_in : chkB f_pieces_in.body (ckOf G N_pieces_in (defScope s_pieces_in)) f_pieces_in.fresh (defBody s_pieces_in) = true := by decide +kernel
abbrev s_checked_pieces : Stmt := top 15
def N_checked_pieces : List Str := [Str.ofString "text", Str.ofString "found"]
def d_checked_pieces : He.DefD := ⟨("checked_pieces", none), "checked_pieces", "checked_pieces", defArgs s_checked_pieces, defBody s_checked_pieces, defScope s_checked_pieces, [], []⟩
theorem sc_checked_pieces : FnScope N_checked_pieces (pst f_checked_pieces.ps) (defScope s_checked_pieces) := ⟨rfl, rfl, rfl, by decide +kernel, rfl, by decide +kernel, by decide +kernel⟩
theorem ck_checked_pieces : chkB f_checked_pieces.body (ckOf G N_checked_pieces (defScope s_checked_pieces)) f_checked_pieces.fresh (defBody s_checked_pieces) = true := by decide +kernel
abbrev s_check_tokens : Stmt := top 16
def N_check_tokens : List Str := [Str.ofString "tokens", Str.ofString "token"]
def d_check_tokens : He.DefD := ⟨("check_tokens", none), "check_tokens", "check_tokens", defArgs s_check_tokens, defBody s_check_tokens, defScope s_check_tokens, [], []⟩
theorem sc_check_tokens : FnScope N_check_tokens (pst f_check_tokens.ps) (defScope s_check_tokens) := ⟨rfl, rfl, rfl, by decide +kernel, rfl, by decide +kernel, by decide +kernel⟩
theorem ck_check_tokens : chkB f_check_tokens.body (ckOf G N_check_tokens (defScope s_check_tokens)) f_check_tokens.fresh (defBody s_check_tokens) = true := by decide +kernel
abbrev s_written_token : Stmt := top 17
def N_written_token : List Str := [Str.ofString "token", Str.ofString "word", Str.ofString "value"]
def d_written_token : He.DefD := ⟨("written_token", none), "written_token", "written_token", defArgs s_written_token, defBody s_written_token, defScope s_written_token, [], []⟩
theorem sc_written_token : FnScope N_written_token (pst f_written_token.ps) (defScope s_written_token) := ⟨rfl, rfl, rfl, by decide +kernel, rfl, by decide +kernel, by decide +kernel⟩
theorem ck_written_token : chkB f_written_token.body (ckOf G N_written_token (defScope s_written_token)) f_written_token.fresh (defBody s_written_token) = true := by decide +kernel
abbrev s_written : Stmt := top 18
def N_written : List Str := [Str.ofString "tokens", Str.ofString "token"]
def d_written : He.DefD := ⟨("written", none), "written", "written", defArgs s_written, defBody s_written, defScope s_written, [], []⟩
theorem sc_written : FnScope N_written (pst f_written.ps) (defScope s_written) := ⟨rfl, rfl, rfl, by decide +kernel, rfl, by decide +kernel, by decide +kernel⟩
theorem ck_written : chkB f_written.body (ckOf G N_written (defScope s_written)) f_written.fresh (defBody s_written) = true := by decide +kernel
abbrev s_tokens_of : Stmt := top 19
def N_tokens_of : List Str := [Str.ofString "text", Str.ofString "token", Str.ofString "first", Str.ofString "behind"]
def d_tokens_of : He.DefD := ⟨("tokens_of", none), "tokens_of", "tokens_of", defArgs s_tokens_of, defBody s_tokens_of, defScope s_tokens_of, [], []⟩
theorem sc_tokens_of : FnScope N_tokens_of (pst f_tokens_of.ps) (defScope s_tokens_of) := ⟨rfl, rfl, rfl, by decide +kernel, rfl, by decide +kernel, by decide +kernel⟩
theorem ck_tokens_of : chkB f_tokens_of.body (ckOf G N_tokens_of (defScope s_tokens_of)) f_tokens_of.fresh (defBody s_tokens_of) = true := by decide +kernel
abbrev s_text_of : Stmt := top 20
def N_text_of : List Str := [Str.ofString "tokens"]
def d_text_of : He.DefD := ⟨("text_of", none), "text_of", "text_of", defArgs s_text_of, defBody s_text_of, defScope s_text_of, [], []⟩
theorem sc_text_of : FnScope N_text_of (pst f_text_of.ps) (defScope s_text_of) := ⟨rfl, rfl, rfl, by decide +kernel, rfl, by decide +kernel, by decide +kernel⟩
theorem ck_text_of : chkB f_text_of.body (ckOf G N_text_of (defScope s_text_of)) f_text_of.fresh (defBody s_text_of) = true := by decide +kernel
abbrev s_places_of : Stmt := top 21
def N_places_of : List Str := [Str.ofString "text", Str.ofString "token", Str.ofString "first", Str.ofString "behind"]
def d_places_of : He.DefD := ⟨("places_of", none), "places_of", "places_of", defArgs s_places_of, defBody s_places_of, defScope s_places_of, [], []⟩
theorem sc_places_of : FnScope N_places_of (pst f_places_of.ps) (defScope s_places_of) := ⟨rfl, rfl, rfl, by decide +kernel, rfl, by decide +kernel, by decide +kernel⟩
theorem ck_places_of : chkB f_places_of.body (ckOf G N_places_of (defScope s_places_of)) f_places_of.fresh (defBody s_places_of) = true := by decide +kernel
abbrev s__law_cell_at : Stmt := top 23
def N__law_cell_at : List Str := [Str.ofString "_law_script", Str.ofString "_law_k"]
def d__law_cell_at : He.DefD := ⟨("_law_cell_at", none), "_law_cell_at", "_law_cell_at", defArgs s__law_cell_at, defBody s__law_cell_at, defScope s__law_cell_at, [], []⟩
theorem sc__law_cell_at : FnScope N__law_cell_at (pst f__law_cell_at.ps) (defScope s__law_cell_at) := ⟨rfl, rfl, rfl, by decide +kernel, rfl, by decide +kernel, by decide +kernel⟩
theorem ck__law_cell_at : chkB f__law_cell_at.body (ckOf G N__law_cell_at (defScope s__law_cell_at)) f__law_cell_at.fresh (defBody s__law_cell_at) = true := by decide +kernel
abbrev s__law_source : Stmt := top 24
def N__law_source : List Str := [Str.ofString "_law_cell", Str.ofString "_law_k", Str.ofString "_law_small"]
def d__law_source : He.DefD := ⟨("_law_source", none), "_law_source", "_law_source", defArgs s__law_source, defBody s__law_source, defScope s__law_source, [], []⟩
theorem sc__law_source : FnScope N__law_source (pst f__law_source.ps) (defScope s__law_source) := ⟨rfl, rfl, rfl, by decide +kernel, rfl, by decide +kernel, by decide +kernel⟩
theorem ck__law_source : chkB f__law_source.body (ckOf G N__law_source (defScope s__law_source)) f__law_source.fresh (defBody s__law_source) = true := by decide +kernel
abbrev s__law_draw : Stmt := top 25
def N__law_draw : List Str := [Str.ofString "_law_source_here", Str.ofString "_law_count", Str.ofString "_law_mixed", Str.ofString "_law_found"]
def d__law_draw : He.DefD := ⟨("_law_draw", none), "_law_draw", "_law_draw", defArgs s__law_draw, defBody s__law_draw, defScope s__law_draw, [], []⟩
theorem sc__law_draw : FnScope N__law_draw (pst f__law_draw.ps) (defScope s__law_draw) := ⟨rfl, rfl, rfl, by decide +kernel, rfl, by decide +kernel, by decide +kernel⟩
theorem ck__law_draw : chkB f__law_draw.body (ckOf G N__law_draw (defScope s__law_draw)) f__law_draw.fresh (defBody s__law_draw) = true := by decide +kernel
abbrev s__law_tokens_drawn : Stmt := top 26
def N__law_tokens_drawn : List Str := [Str.ofString "_law_source_here", Str.ofString "_law_most", Str.ofString "_law_found", Str.ofString "_law_k", Str.ofString "_law_pick", Str.ofString "_law_name"]
def d__law_tokens_drawn : He.DefD := ⟨("_law_tokens_drawn", none), "_law_tokens_drawn", "_law_tokens_drawn", defArgs s__law_tokens_drawn, defBody s__law_tokens_drawn, defScope s__law_tokens_drawn, [], []⟩
theorem sc__law_tokens_drawn : FnScope N__law_tokens_drawn (pst f__law_tokens_drawn.ps) (defScope s__law_tokens_drawn) := ⟨rfl, rfl, rfl, by decide +kernel, rfl, by decide +kernel, by decide +kernel⟩
theorem ck__law_tokens_drawn : chkB f__law_tokens_drawn.body (ckOf G N__law_tokens_drawn (defScope s__law_tokens_drawn)) f__law_tokens_drawn.fresh (defBody s__law_tokens_drawn) = true := by decide +kernel
abbrev s__law_both : Stmt := top 27
def N__law_both : List Str := [Str.ofString "_law_one", Str.ofString "_law_two"]
def d__law_both : He.DefD := ⟨("_law_both", none), "_law_both", "_law_both", defArgs s__law_both, defBody s__law_both, defScope s__law_both, [], []⟩
theorem sc__law_both : FnScope N__law_both (pst f__law_both.ps) (defScope s__law_both) := ⟨rfl, rfl, rfl, by decide +kernel, rfl, by decide +kernel, by decide +kernel⟩
theorem ck__law_both : chkB f__law_both.body (ckOf G N__law_both (defScope s__law_both)) f__law_both.fresh (defBody s__law_both) = true := by decide +kernel
abbrev s_law : Stmt := top 28
def N_law : List Str := [Str.ofString "_law_script", Str.ofString "_law_k", Str.ofString "_law_source_here", Str.ofString "_law_turn", Str.ofString "_law_one", Str.ofString "_law_two", Str.ofString "_law_front", Str.ofString "_law_whole", Str.ofString "_law_pieces", Str.ofString "_law_tokens", Str.ofString "_law_at", Str.ofString "_law_j", Str.ofString "_law_begin", Str.ofString "_law_end"]
def d_law : He.DefD := ⟨("law", none), "law", "law", defArgs s_law, defBody s_law, defScope s_law, [], []⟩
theorem sc_law : FnScope N_law (pst f_law.ps) (defScope s_law) := ⟨rfl, rfl, rfl, by decide +kernel, rfl, by decide +kernel, by decide +kernel⟩
theorem ck_law : chkB f_law.body (ckOf G N_law (defScope s_law)) f_law.fresh (defBody s_law) = true := by decide +kernel
def fnL : List He.DefD := [d_is_name, d_is_signs, d_is_token, d_tag_in, d_pieces_in, d_checked_pieces, d_check_tokens, d_written_token, d_written, d_tokens_of, d_text_of, d_places_of, d__law_cell_at, d__law_source, d__law_draw, d__law_tokens_drawn, d__law_both, d_law]
def faL : List He.Fa := [.glo "is_name", .glo "is_signs", .glo "is_token", .glo "tag_in", .glo "pieces_in", .glo "checked_pieces", .glo "check_tokens", .glo "written_token", .glo "written", .glo "tokens_of", .glo "text_of", .glo "places_of", .glo "_law_cell_at", .glo "_law_source", .glo "_law_draw", .glo "_law_tokens_drawn", .glo "_law_both", .glo "law", .free "len", .free "all", .free "any", .free "sum", .free "min", .free "max", .free "int", .free "str", .free "list", .free "tuple", .free "sorted", .free "ord", .free "abs", .free "isinstance", .free "range", .free "zip", .free "enumerate", .free "bool", .free "dict", .str "START" "start", .str "END" "end", .str "TEXT" "text", .str "LETTERS" "abcdefghijklmnopqrstuvwxyz", .int "LONGEST" 12]
section
variable {K : PySem.W.Frag} {h : Heap} {mg : Str → Option Value}
theorem ok_is_name (X : K.In h) (Gm : h.Ns mainGlobals mg) (c : He.SaysD faL fnL K) : DefOk G K mg "is_name" f_is_name := by
  obtain ⟨fd, F⟩ := c.def_ 0 (d := d_is_name) rfl
  exact ⟨_, fd, _, s_is_name, N_is_name, He.glo_ok X Gm (c.fact 0 rfl), F, sc_is_name, rfl, F.bindsN (fun _ _ _ _ _ _ us hl => match us, hl with | [_], _ => rfl), ck_is_name⟩
theorem ok_is_signs (X : K.In h) (Gm : h.Ns mainGlobals mg) (c : He.SaysD faL fnL K) : DefOk G K mg "is_signs" f_is_signs := by
  obtain ⟨fd, F⟩ := c.def_ 1 (d := d_is_signs) rfl
  exact ⟨_, fd, _, s_is_signs, N_is_signs, He.glo_ok X Gm (c.fact 1 rfl), F, sc_is_signs, rfl, F.bindsN (fun _ _ _ _ _ _ us hl => match us, hl with | [_], _ => rfl), ck_is_signs⟩
theorem ok_is_token (X : K.In h) (Gm : h.Ns mainGlobals mg) (c : He.SaysD faL fnL K) : DefOk G K mg "is_token" f_is_token := by
  obtain ⟨fd, F⟩ := c.def_ 2 (d := d_is_token) rfl
  exact ⟨_, fd, _, s_is_token, N_is_token, He.glo_ok X Gm (c.fact 2 rfl), F, sc_is_token, rfl, F.bindsN (fun _ _ _ _ _ _ us hl => match us, hl with | [_], _ => rfl), ck_is_token⟩
theorem ok_tag_in (X : K.In h) (Gm : h.Ns mainGlobals mg) (c : He.SaysD faL fnL K) : DefOk G K mg "tag_in" f_tag_in := by
  obtain ⟨fd, F⟩ := c.def_ 3 (d := d_tag_in) rfl
  exact ⟨_, fd, _, s_tag_in, N_tag_in, He.glo_ok X Gm (c.fact 3 rfl), F, sc_tag_in, rfl, F.bindsN (fun _ _ _ _ _ _ us hl => match us, hl with | [_], _ => rfl), ck_tag_in⟩
theorem ok_pieces_in (X : K.In h) (Gm : h.Ns mainGlobals mg) (c : He.SaysD faL fnL K) : DefOk G K mg "pieces_in" f_pieces_in := by
  obtain ⟨fd, F⟩ := c.def_ 4 (d := d_pieces_in) rfl
  exact ⟨_, fd, _, s_pieces_in, N_pieces_in, He.glo_ok X Gm (c.fact 4 rfl), F, sc_pieces_in, rfl, F.bindsN (fun _ _ _ _ _ _ us hl => match us, hl with | [_], _ => rfl), ck_pieces_in⟩
theorem ok_checked_pieces (X : K.In h) (Gm : h.Ns mainGlobals mg) (c : He.SaysD faL fnL K) : DefOk G K mg "checked_pieces" f_checked_pieces := by
  obtain ⟨fd, F⟩ := c.def_ 5 (d := d_checked_pieces) rfl
  exact ⟨_, fd, _, s_checked_pieces, N_checked_pieces, He.glo_ok X Gm (c.fact 5 rfl), F, sc_checked_pieces, rfl, F.bindsN (fun _ _ _ _ _ _ us hl => match us, hl with | [_], _ => rfl), ck_checked_pieces⟩
theorem ok_check_tokens (X : K.In h) (Gm : h.Ns mainGlobals mg) (c : He.SaysD faL fnL K) : DefOk G K mg "check_tokens" f_check_tokens := by
  obtain ⟨fd, F⟩ := c.def_ 6 (d := d_check_tokens) rfl
  exact ⟨_, fd, _, s_check_tokens, N_check_tokens, He.glo_ok X Gm (c.fact 6 rfl), F, sc_check_tokens, rfl, F.bindsN (fun _ _ _ _ _ _ us hl => match us, hl with | [_], _ => rfl), ck_check_tokens⟩
theorem ok_written_token (X : K.In h) (Gm : h.Ns mainGlobals mg) (c : He.SaysD faL fnL K) : DefOk G K mg "written_token" f_written_token := by
  obtain ⟨fd, F⟩ := c.def_ 7 (d := d_written_token) rfl
  exact ⟨_, fd, _, s_written_token, N_written_token, He.glo_ok X Gm (c.fact 7 rfl), F, sc_written_token, rfl, F.bindsN (fun _ _ _ _ _ _ us hl => match us, hl with | [_], _ => rfl), ck_written_token⟩
theorem ok_written (X : K.In h) (Gm : h.Ns mainGlobals mg) (c : He.SaysD faL fnL K) : DefOk G K mg "written" f_written := by
  obtain ⟨fd, F⟩ := c.def_ 8 (d := d_written) rfl
  exact ⟨_, fd, _, s_written, N_written, He.glo_ok X Gm (c.fact 8 rfl), F, sc_written, rfl, F.bindsN (fun _ _ _ _ _ _ us hl => match us, hl with | [_], _ => rfl), ck_written⟩
theorem ok_tokens_of (X : K.In h) (Gm : h.Ns mainGlobals mg) (c : He.SaysD faL fnL K) : DefOk G K mg "tokens_of" f_tokens_of := by
  obtain ⟨fd, F⟩ := c.def_ 9 (d := d_tokens_of) rfl
  exact ⟨_, fd, _, s_tokens_of, N_tokens_of, He.glo_ok X Gm (c.fact 9 rfl), F, sc_tokens_of, rfl, F.bindsN (fun _ _ _ _ _ _ us hl => match us, hl with | [_], _ => rfl), ck_tokens_of⟩
theorem ok_text_of (X : K.In h) (Gm : h.Ns mainGlobals mg) (c : He.SaysD faL fnL K) : DefOk G K mg "text_of" f_text_of := by
  obtain ⟨fd, F⟩ := c.def_ 10 (d := d_text_of) rfl
  exact ⟨_, fd, _, s_text_of, N_text_of, He.glo_ok X Gm (c.fact 10 rfl), F, sc_text_of, rfl, F.bindsN (fun _ _ _ _ _ _ us hl => match us, hl with | [_], _ => rfl), ck_text_of⟩
theorem ok_places_of (X : K.In h) (Gm : h.Ns mainGlobals mg) (c : He.SaysD faL fnL K) : DefOk G K mg "places_of" f_places_of := by
  obtain ⟨fd, F⟩ := c.def_ 11 (d := d_places_of) rfl
  exact ⟨_, fd, _, s_places_of, N_places_of, He.glo_ok X Gm (c.fact 11 rfl), F, sc_places_of, rfl, F.bindsN (fun _ _ _ _ _ _ us hl => match us, hl with | [_], _ => rfl), ck_places_of⟩
theorem ok__law_cell_at (X : K.In h) (Gm : h.Ns mainGlobals mg) (c : He.SaysD faL fnL K) : DefOk G K mg "_law_cell_at" f__law_cell_at := by
  obtain ⟨fd, F⟩ := c.def_ 12 (d := d__law_cell_at) rfl
  exact ⟨_, fd, _, s__law_cell_at, N__law_cell_at, He.glo_ok X Gm (c.fact 12 rfl), F, sc__law_cell_at, rfl, F.bindsN (fun _ _ _ _ _ _ us hl => match us, hl with | [_, _], _ => rfl), ck__law_cell_at⟩
theorem ok__law_source (X : K.In h) (Gm : h.Ns mainGlobals mg) (c : He.SaysD faL fnL K) : DefOk G K mg "_law_source" f__law_source := by
  obtain ⟨fd, F⟩ := c.def_ 13 (d := d__law_source) rfl
  exact ⟨_, fd, _, s__law_source, N__law_source, He.glo_ok X Gm (c.fact 13 rfl), F, sc__law_source, rfl, F.bindsN (fun _ _ _ _ _ _ us hl => match us, hl with | [_, _], _ => rfl), ck__law_source⟩
theorem ok__law_draw (X : K.In h) (Gm : h.Ns mainGlobals mg) (c : He.SaysD faL fnL K) : DefOk G K mg "_law_draw" f__law_draw := by
  obtain ⟨fd, F⟩ := c.def_ 14 (d := d__law_draw) rfl
  exact ⟨_, fd, _, s__law_draw, N__law_draw, He.glo_ok X Gm (c.fact 14 rfl), F, sc__law_draw, rfl, F.bindsN (fun _ _ _ _ _ _ us hl => match us, hl with | [_, _], _ => rfl), ck__law_draw⟩
theorem ok__law_tokens_drawn (X : K.In h) (Gm : h.Ns mainGlobals mg) (c : He.SaysD faL fnL K) : DefOk G K mg "_law_tokens_drawn" f__law_tokens_drawn := by
  obtain ⟨fd, F⟩ := c.def_ 15 (d := d__law_tokens_drawn) rfl
  exact ⟨_, fd, _, s__law_tokens_drawn, N__law_tokens_drawn, He.glo_ok X Gm (c.fact 15 rfl), F, sc__law_tokens_drawn, rfl, F.bindsN (fun _ _ _ _ _ _ us hl => match us, hl with | [_, _], _ => rfl), ck__law_tokens_drawn⟩
theorem ok__law_both (X : K.In h) (Gm : h.Ns mainGlobals mg) (c : He.SaysD faL fnL K) : DefOk G K mg "_law_both" f__law_both := by
  obtain ⟨fd, F⟩ := c.def_ 16 (d := d__law_both) rfl
  exact ⟨_, fd, _, s__law_both, N__law_both, He.glo_ok X Gm (c.fact 16 rfl), F, sc__law_both, rfl, F.bindsN (fun _ _ _ _ _ _ us hl => match us, hl with | [_, _], _ => rfl), ck__law_both⟩
theorem ok_law (X : K.In h) (Gm : h.Ns mainGlobals mg) (c : He.SaysD faL fnL K) : DefOk G K mg "law" f_law := by
  obtain ⟨fd, F⟩ := c.def_ 17 (d := d_law) rfl
  exact ⟨_, fd, _, s_law, N_law, He.glo_ok X Gm (c.fact 17 rfl), F, sc_law, rfl, F.bindsN (fun _ _ _ _ _ _ us hl => match us, hl with | [_], _ => rfl), ck_law⟩
theorem glo_0 (X : K.In h) (Gm : h.Ns mainGlobals mg) (c : He.SaysD faL fnL K) : ∃ u v, mg (Str.ofString "START") = some u ∧ RelV v u ∧ ∀ F m, VD F m (.str [115, 116, 97, 114, 116]) v := by
  obtain ⟨t, e⟩ := He.str_ok X Gm (c.fact 37 rfl)
  exact ⟨_, .str "start", e, ⟨t, rfl⟩, fun F m => by simp only [VD]; exact ⟨by decide +kernel, by decide, by decide⟩⟩
theorem glo_1 (X : K.In h) (Gm : h.Ns mainGlobals mg) (c : He.SaysD faL fnL K) : ∃ u v, mg (Str.ofString "END") = some u ∧ RelV v u ∧ ∀ F m, VD F m (.str [101, 110, 100]) v := by
  obtain ⟨t, e⟩ := He.str_ok X Gm (c.fact 38 rfl)
  exact ⟨_, .str "end", e, ⟨t, rfl⟩, fun F m => by simp only [VD]; exact ⟨by decide +kernel, by decide, by decide⟩⟩
theorem glo_2 (X : K.In h) (Gm : h.Ns mainGlobals mg) (c : He.SaysD faL fnL K) : ∃ u v, mg (Str.ofString "TEXT") = some u ∧ RelV v u ∧ ∀ F m, VD F m (.str [116, 101, 120, 116]) v := by
  obtain ⟨t, e⟩ := He.str_ok X Gm (c.fact 39 rfl)
  exact ⟨_, .str "text", e, ⟨t, rfl⟩, fun F m => by simp only [VD]; exact ⟨by decide +kernel, by decide, by decide⟩⟩
theorem glo_3 (X : K.In h) (Gm : h.Ns mainGlobals mg) (c : He.SaysD faL fnL K) : ∃ u v, mg (Str.ofString "LETTERS") = some u ∧ RelV v u ∧ ∀ F m, VD F m (.str [97, 98, 99, 100, 101, 102, 103, 104, 105, 106, 107, 108, 109, 110, 111, 112, 113, 114, 115, 116, 117, 118, 119, 120, 121, 122]) v := by
  obtain ⟨t, e⟩ := He.str_ok X Gm (c.fact 40 rfl)
  exact ⟨_, .str "abcdefghijklmnopqrstuvwxyz", e, ⟨t, rfl⟩, fun F m => by simp only [VD]; exact ⟨by decide +kernel, by decide, by decide⟩⟩
theorem glo_4 (X : K.In h) (Gm : h.Ns mainGlobals mg) (c : He.SaysD faL fnL K) : ∃ u v, mg (Str.ofString "LONGEST") = some u ∧ RelV v u ∧ ∀ F m, VD F m (.int (12)) v := by
  obtain ⟨t, e⟩ := He.int_ok X Gm (c.fact 41 rfl)
  exact ⟨_, .int 12, e, ⟨t, rfl⟩, fun F m => by simp only [VD]⟩
theorem tab_ok (X : K.In h) (Gm : h.Ns mainGlobals mg) (c : He.SaysD faL fnL K) : TabOk G K mg where
  fn := fun f d e => AllP.get (P := DefOk G K mg) (l := tab) ⟨ok_is_name X Gm c, ok_is_signs X Gm c, ok_is_token X Gm c, ok_tag_in X Gm c, ok_pieces_in X Gm c, ok_checked_pieces X Gm c, ok_check_tokens X Gm c, ok_written_token X Gm c, ok_written X Gm c, ok_tokens_of X Gm c, ok_text_of X Gm c, ok_places_of X Gm c, ok__law_cell_at X Gm c, ok__law_source X Gm c, ok__law_draw X Gm c, ok__law_tokens_drawn X Gm c, ok__law_both X Gm c, ok_law X Gm c, trivial⟩ e
  blt := fun x hx => by
    simp only [allBlt, List.mem_cons, List.not_mem_nil, or_false] at hx
    rcases hx with rfl | rfl | rfl | rfl | rfl | rfl | rfl | rfl | rfl | rfl | rfl | rfl | rfl | rfl | rfl | rfl | rfl | rfl | rfl
    · exact He.free_ok X Gm (c.fact 18 rfl)
    · exact He.free_ok X Gm (c.fact 19 rfl)
    · exact He.free_ok X Gm (c.fact 20 rfl)
    · exact He.free_ok X Gm (c.fact 21 rfl)
    · exact He.free_ok X Gm (c.fact 22 rfl)
    · exact He.free_ok X Gm (c.fact 23 rfl)
    · exact He.free_ok X Gm (c.fact 24 rfl)
    · exact He.free_ok X Gm (c.fact 25 rfl)
    · exact He.free_ok X Gm (c.fact 26 rfl)
    · exact He.free_ok X Gm (c.fact 27 rfl)
    · exact He.free_ok X Gm (c.fact 28 rfl)
    · exact He.free_ok X Gm (c.fact 29 rfl)
    · exact He.free_ok X Gm (c.fact 30 rfl)
    · exact He.free_ok X Gm (c.fact 31 rfl)
    · exact He.free_ok X Gm (c.fact 32 rfl)
    · exact He.free_ok X Gm (c.fact 33 rfl)
    · exact He.free_ok X Gm (c.fact 34 rfl)
    · exact He.free_ok X Gm (c.fact 35 rfl)
    · exact He.free_ok X Gm (c.fact 36 rfl)
  gl := fun x d e => AllP.get (P := fun x d => ∃ u v, mg (Str.ofString x) = some u ∧ RelV v u ∧ ∀ F m, VD F m d v) (l := glt) ⟨glo_0 X Gm c, glo_1 X Gm c, glo_2 X Gm c, glo_3 X Gm c, glo_4 X Gm c, trivial⟩ e
end
def loose : List PySem.Str := (["MarkupError", "InvalidTokens", "InvalidText", "START", "END", "TEXT", "LETTERS", "LONGEST", "is_name", "is_signs", "is_token", "tag_in", "pieces_in", "checked_pieces", "check_tokens", "written_token", "written", "tokens_of", "text_of", "places_of", "_law_cell_at", "_law_source", "_law_draw", "_law_tokens_drawn", "_law_both"] : List PySem.Str)
abbrev RoW : PySem.W.OpenRow := PySem.W.OpenLaw.row PySem.Challenge.rw_looseends_k02_whole_texts_and_tokens
abbrev hk : PySem.W.Hook := hookL 4 faL fnL
def ob (s : PySem.W.SharedT) : AlL := obsL 4 faL fnL (HandSHeadRun.getT s)
theorem ob_eq (s : PySem.W.SharedT) : ob s = hk.obs s.abs := obsL_eq (HandSHeadRun.getT_eq s)
theorem run (w : World) : HandSHeadRun.RunEq RoW (PySem.W.view RoW.prog [28]) hk ob 4000 loose w := by
  intro os
  kernel_rfl
end Lt
open PySem.W PySem.Calls
theorem PySem.Challenge.cw_looseends_k02_whole_texts_and_tokens_holds : PySem.Challenge.rw_looseends_k02_whole_texts_and_tokens.Holds := by
  w_on; o_law
  refine HandSHeadRun.head_any (r := Lt.RoW) (q := view Lt.RoW.prog [28]) (H := Lt.hk) (ob := Lt.ob) (M := 4000) (loose := Lt.loose) (d := HandSHeadRun.topDef Lt.RoW.prog 28) (kwd := []) Lt.ob_eq
    (by kernel_rfl) (fun s => by kernel_rfl) Lt.run (by kernel_rfl) (by kernel_rfl) (by kernel_rfl) (by rfl) (by first | assumption | decide +kernel) (by decide +kernel) ⟨rfl, rfl, rfl, rfl, rfl, by decide +kernel⟩ ?hw ?hc
  case hw => w_witness2
  case hc =>
    refine L2.walk_ofE (l := PySem.Challenge.rw_looseends_k02_whole_texts_and_tokens) (n := 63) (k := Lt.lvl) (x := "_law_script") (CX := L2.CX0) rfl (by decide) (by kernel_rfl) ⟨rfl, by decide, by decide⟩ ?F (fun _ _ _ _ z => z)
    intro w mg fa h Y Gm hmg0
    obtain ⟨K, KX, hn, c⟩ := Y
    have hmg : mg ("law" : PySem.Str) = some (.ref fa) := by
      have e : (HandSHeadRun.topDef Lt.RoW.prog 28).name = ("law" : PySem.Str) := by kernel_rfl
      rw [← e]
      exact hmg0
    obtain ⟨fd, F⟩ := c.def_ 17 (d := Lt.d_law) rfl
    have e := hmg.symm.trans (He.glo_ok KX Gm (c.fact 17 (f := .glo "law") rfl))
    cases e
    have b := L2.FunD.bindsA (ps := ["_law_script"]) F fun _ _ _ _ _ _ us hl => match us, hl with | [_], _ => rfl
    refine ⟨K, fd, Lt.spLaw Lt.G Lt.wfN Lt.lvl, KX, fun s v => b s [v] rfl, Lt.law_sp hn Lt.G_law rfl Lt.law_true, fun base X1 G1 => ?_⟩
    exact Lt.law_ok (Lt.tab_ok KX Gm c) Lt.G_law rfl hmg (Lt.FnAt.of F)

