import PyProof.Rows.All
import PySem.Challenge.RW_spandrel_k01_sets_of_letters
import PySem.Str
import Wide.All
import OpenK.AllK
import Wide.FinOn
import HandS.ForMost
import HandS.Exc
import HandS.TryOnly
import HandS.ExcOwn
import HandS.WordsExc
import HandS.Deep
import HandS.TupLe
import HandS.TupMul
import HandS.TupAny
import HandS.Conv
import HandS.Flow
import HandS.Wide
import HandS.WideMore
import HandS.Defaults
import HandS.IsInst
import HandS.SetFor
import HandS.TupSets
import HandS.Strs
import HandS.SortInts
import HandS.SortRule
import HandS.Head0
import HandS.Head1
import HandS.Head2
import HandS.HeadEnd
import HandS.HeadHook1
import HandS.HeadHook2
set_option Elab.async false
set_option linter.all false
section
/-! Cr: what a def computes, as plain functions over trees of data (D): lists and dicts as values. -/
namespace Cr
open PySem (Str)
/-- data: what a Python value is, without addresses -/
inductive D where
  | non | bl (b : Bool) | int (i : Int) | str (s : Str) | tup (xs : List D) | lst (xs : List D) | dct (kvs : List (D × D)) | set (xs : List D)
  deriving Inhabited
abbrev Sl := List (Option D)
/-- an outcome: a value and the slots, an own exception (by its number), or what is not covered -/
inductive Out (α : Type) where
  | ok (a : α) (e : Sl) | exn (c : Nat) (e : Sl) | bad
abbrev M (α : Type) := Sl → Out α
inductive Fl where
  | nx | bk | ct | rt (d : D)
abbrev S := M Fl
/-- a def's outcome: the answer and what its parameters hold behind it -/
inductive FOut where
  | ok (d : D) (ds : List D) | exn (c : Nat) | bad
abbrev Fn := List D → FOut

def pu {α : Type} (a : α) : M α := fun e => .ok a e
def bd {α β : Type} (m : M α) (f : α → M β) : M β := fun e => match m e with
  | .ok a e1 => f a e1
  | .exn c e1 => .exn c e1
  | .bad => .bad
def opt {α : Type} (o : Option α) : M α := fun e => match o with
  | some a => .ok a e
  | none => .bad
def guardM (b : Bool) : M Unit := fun e => if b = true then .ok () e else .bad
def raise {α : Type} (c : Nat) : M α := fun e => .exn c e
def badM {α : Type} : M α := fun _ => .bad
/-- a slot -/
def rd (i : Nat) : M D := fun e => match e[i]? with
  | some (some d) => .ok d e
  | _ => .bad
def wr (i : Nat) (d : D) : M Unit := fun e => if i < e.length then .ok () (e.set i (some d)) else .bad
def clr (i : Nat) : M Unit := fun e => .ok () (e.set i none)
/-- an operand: an expression, or a slot that owns its list (read late) -/
inductive Opd where
  | d (m : M D) | o (i : Nat)
def cst (d : D) : M D := pu d
def bin (g : D → D → Option D) : Opd → Opd → M D
  | .d a, .d b => bd a fun x => bd b fun y => opt (g x y)
  | .o i, .d b => bd (rd i) fun _ => bd b fun y => bd (rd i) fun x => opt (g x y)
  | .d a, .o j => bd a fun x => bd (rd j) fun y => opt (g x y)
  | .o i, .o j => bd (rd i) fun x => bd (rd j) fun y => opt (g x y)
def un (g : D → Option D) : Opd → M D
  | .d a => bd a fun x => opt (g x)
  | .o i => bd (rd i) fun x => opt (g x)
def toB : D → M Bool
  | .bl b => pu b
  | _ => badM
/-- truth -/
def truth : D → Option Bool
  | .non => some false
  | .bl b => some b
  | .int i => some (i != 0)
  | .str s => if s.length ≤ 1000000 then some (s.length != 0) else none
  | .tup xs => some (!xs.isEmpty)
  | .lst xs => some (!xs.isEmpty)
  | .dct xs => some (!xs.isEmpty)
  | .set _ => none
def tstB (m : M D) : M Bool := bd m toB
def tru : Opd → M Bool
  | .d a => bd a fun x => opt (truth x)
  | .o i => bd (rd i) fun x => opt (truth x)
def andT (a b : M Bool) : M Bool := bd a fun x => if x = true then b else pu false
def orT (a b : M Bool) : M Bool := bd a fun x => if x = true then pu true else b
def notT (a : M Bool) : M Bool := bd a fun x => pu (!x)
def valB (a : M Bool) : M D := bd a fun x => pu (.bl x)
def andV (a b : M D) : M D := bd a fun x => bd (toB x) fun c => if c = true then b else pu (.bl false)
def orV (a b : M D) : M D := bd a fun x => bd (toB x) fun c => if c = true then pu (.bl true) else b
def notV (a : M D) : M D := bd a fun x => bd (toB x) fun c => pu (.bl (!c))
def ifE (t : M Bool) (a b : M D) : M D := bd t fun x => if x = true then a else b
/-- a < b < c -/
def chain (g g' : D → D → Option D) (a b c : M D) : M D := bd a fun x => bd b fun y => bd (opt (g x y)) fun r => bd (toB r) fun k => if k = true then bd c fun z => opt (g' y z) else pu (.bl false)
/-- a row of expressions -/
def seqE : List (M D) → M (List D)
  | [] => pu []
  | m :: ms => bd m fun x => bd (seqE ms) fun xs => pu (x :: xs)
def tupE (ms : List (M D)) : M D := bd (seqE ms) fun xs => pu (.tup xs)
def lstE (ms : List (M D)) : M D := bd (seqE ms) fun xs => pu (.lst xs)
/-- a row of operands: the slots that own are read behind all the others -/
def ph1 : List Opd → M (List D)
  | [] => pu []
  | .d m :: r => bd m fun x => bd (ph1 r) fun xs => pu (x :: xs)
  | .o i :: r => bd (rd i) fun _ => ph1 r
def ph2 : List Opd → List D → M (List D)
  | [], _ => pu []
  | .d _ :: r, x :: xs => bd (ph2 r xs) fun ys => pu (x :: ys)
  | .d _ :: _, [] => badM
  | .o i :: r, xs => bd (rd i) fun y => bd (ph2 r xs) fun ys => pu (y :: ys)
def opds (as : List Opd) : M (List D) := bd (ph1 as) fun xs => ph2 as xs
/-- a call of a built-in by values -/
def callB (g : List D → Option D) (as : List Opd) : M D := bd (opds as) fun xs => opt (g xs)
/-- a call of a def: what its own arguments hold behind it goes back into their slots -/
def back : List Opd → List D → M Unit
  | [], _ => pu ()
  | .d _ :: r, _ :: xs => back r xs
  | .d _ :: _, [] => badM
  | .o i :: r, x :: xs => bd (wr i x) fun _ => back r xs
  | .o _ :: _, [] => badM
def slots : List Opd → List Nat
  | [] => []
  | .d _ :: as => slots as
  | .o i :: as => i :: slots as
def callF (f : Fn) (as : List Opd) : M D := bd (opds as) fun xs => fun e => match f xs with
  | .ok d ds => bd (back as ds) (fun _ => pu d) e
  | .exn c => if slots as = [] then .exn c e else .bad
  | .bad => .bad
/-! ### statements -/
def nx : S := pu .nx
def seqS (a b : S) : S := bd a fun f => match f with
  | .nx => b
  | f => pu f
def blk : List S → S
  | [] => nx
  | [a] => a
  | a :: r => seqS a (blk r)
def ifS (t : M Bool) (a b : S) : S := bd t fun x => if x = true then a else b
def exprS (m : M D) : S := bd m fun _ => nx
def retS (m : M D) : S := bd m fun d => pu (.rt d)
def retO (i : Nat) : S := bd (rd i) fun d => bd (clr i) fun _ => pu (.rt d)
abbrev Tg := D → Sl → Option Sl
def tgN (i : Nat) : Tg := fun d e => if i < e.length then some (e.set i (some d)) else none
def tgs : List Tg → List D → Sl → Option Sl
  | [], [], e => some e
  | t :: ts, d :: ds, e => (t d e).bind (tgs ts ds)
  | _, _, _ => none
def tgT (ts : List Tg) : Tg := fun d e => match d with
  | .tup ds => tgs ts ds e
  | _ => none
def stT {α : Type} (o : Sl → Option Sl) (a : α) : M α := fun e => match o e with
  | some e' => .ok a e'
  | none => .bad
def asg (m : M D) (t : Tg) : S := bd m fun d => stT (t d) .nx
def loop (t : Tg) (b : S) : List D → S
  | [] => nx
  | d :: ds => bd (stT (t d) ()) fun _ => bd b fun f => match f with
    | .nx => loop t b ds
    | .ct => loop t b ds
    | .bk => nx
    | .rt r => pu (.rt r)
def forS (it : M (List D)) (t : Tg) (b : S) : S := bd it fun ds => loop t b ds
def whileN : Nat → M Bool → S → S
  | 0, _, _ => badM
  | n + 1, t, b => bd t fun x => if x = true then (bd b fun f => match f with
    | .nx => whileN n t b
    | .ct => whileN n t b
    | .bk => nx
    | .rt r => pu (.rt r)) else nx
/-! ### comprehensions -/
def wipeE (e : Sl) : List Nat → Sl
  | [] => e
  | v :: vs => (wipeE e vs).set v none
def restE (e0 e : Sl) : List Nat → Sl
  | [] => e
  | v :: vs => (restE e0 e vs).set v (e0[v]?.getD none)
def compL (vs : List Nat) (t : Tg) (c : M Bool) (x : M D) : List D → List D → M (List D)
  | [], acc => pu acc
  | d :: ds, acc => bd (fun e => .ok () (wipeE e vs)) fun _ => bd (stT (t d) ()) fun _ => bd c fun b => if b = true then bd x fun y => compL vs t c x ds (acc ++ [y]) else compL vs t c x ds acc
def lcE (vs : List Nat) (it : M (List D)) (t : Tg) (c : M Bool) (x : M D) : M D := bd it fun ds => fun e => match compL vs t c x ds [] e with
  | .ok ys e1 => if ds.length ≤ 1000000 then .ok (.lst ys) (restE e e1 vs) else .bad
  | .exn _ _ => .bad
  | .bad => .bad
/-! ### a def -/
/-- what the parameters hold behind it: those that own, as their slots; the others as they came -/
def finM : List Bool → List D → Sl → Option (List D)
  | o :: os, d :: ds, s :: e => if o = true then (match s with
      | some x => (finM os ds e).map (x :: ·)
      | none => none) else (finM os ds e).map (d :: ·)
  | [], [], _ => some []
  | _, _, _ => none
def fnOf (own : List Bool) (fall : Bool) (slots : Nat) (body : S) : Fn := fun ds => match body (ds.map some ++ List.replicate (slots - ds.length) none) with
  | .ok .nx e => (match finM own ds e with | some r => if fall = true then .ok .non r else .bad | none => .bad)
  | .ok (.rt d) e => (match finM own ds e with | some r => .ok d r | none => .bad)
  | .ok _ _ => .bad
  | .exn c _ => .exn c
  | .bad => .bad
end Cr
namespace Cr
/-- what has no address in it -/
def scal : D → Bool
  | .non | .bl _ | .int _ | .str _ => true
  | _ => false
/-- a call that reads what slots own, and answers by a scalar -/
def callR (f : Fn) (as : List Opd) : M D := bd (opds as) fun xs => fun e => match f xs with
  | .ok d _ => if scal d = true then .ok d e else .bad
  | .exn c => .exn c e
  | .bad => .bad
/-- a def with no parameters -/
def sl (as : List Opd) (k : Nat) : Option Nat := match as[k]? with
  | some (.o i) => some i
  | _ => none
end Cr

namespace Cr
/-- xs.append(e), xs a slot's own list -/
def LIM : Nat := 1000000
def appS (i : Nat) (m : M D) : S := bd (rd i) fun _ => bd m fun y => bd (rd i) fun d => match d with
  | .lst xs => if xs.length < LIM then bd (wr i (.lst (xs ++ [y]))) fun _ => nx else badM
  | _ => badM
/-- a place of a list, counted from either end -/
def ixN (n : Nat) (i : Int) : Option Nat := if 0 ≤ i then (if i < n then some i.toNat else none) else if -(n : Int) ≤ i then some (i + n).toNat else none
/-- xs[k] = e: e first -/
def setS (i : Nat) (k : M D) (m : M D) : S := bd m fun y => bd (rd i) fun _ => bd k fun kd => bd (rd i) fun d => match d, kd with
  | .lst xs, .int j => (match Cr.ixN xs.length j with
    | some n => bd (wr i (.lst (xs.set n y))) fun _ => nx
    | none => badM)
  | _, _ => badM
end Cr

namespace Cr
def items : D → Option (List D)
  | .lst xs => some xs
  | .tup xs => some xs
  | _ => none
def itE (m : M D) : M (List D) := bd m fun d => opt (items d)
def rangeD (lo : Int) (n : Nat) : List D := (List.range n).map fun (i : Nat) => D.int (lo + (i : Int))
def rng1 : List D → Option (List D)
  | [.int n] => if -1000000 ≤ n ∧ n ≤ 1000000 then some (rangeD 0 n.toNat) else none
  | _ => none
def rng2 : List D → Option (List D)
  | [.int lo, .int hi] => if -1000000 ≤ lo ∧ lo ≤ 1000000 ∧ -1000000 ≤ hi ∧ hi ≤ 1000000 then some (rangeD lo (hi - lo).toNat) else none
  | _ => none
def itR (g : List D → Option (List D)) (as : List Opd) : M (List D) := bd (opds as) fun ds => opt (g ds)
end Cr
namespace Cr
/-! ### operators on data -/
mutual
/-- data of bounded depth without dicts and sets, no text too long -/
def sh : Nat → D → Bool
  | _, .non => true
  | _, .bl _ => true
  | _, .int _ => true
  | _, .str s => s.cps.all (· < 0x110000)
  | n + 1, .tup xs => shL n xs
  | n + 1, .lst xs => shL n xs
  | _, _ => false
def shL : Nat → List D → Bool
  | _, [] => true
  | n, x :: xs => sh n x && shL n xs
end
mutual
/-- == -/
def eqv : D → D → Bool
  | .non, .non => true
  | .bl a, .bl b => a == b
  | .bl a, .int j => (if a then 1 else 0) == j
  | .int i, .bl b => i == (if b then 1 else 0)
  | .int i, .int j => i == j
  | .str x, .str y => x == y
  | .lst xs, .lst ys => eqvL xs ys
  | .tup xs, .tup ys => eqvL xs ys
  | _, _ => false
def eqvL : List D → List D → Bool
  | [], [] => true
  | x :: xs, y :: ys => eqv x y && eqvL xs ys
  | _, _ => false
end
def DEP : Nat := 60
def gEq (x y : D) : Option D := if sh DEP x = true ∧ sh DEP y = true then some (.bl (eqv x y)) else none
def gNe (x y : D) : Option D := if sh DEP x = true ∧ sh DEP y = true then some (.bl (!eqv x y)) else none
def gIn (x c : D) : Option D := match c with
  | .lst ys => if sh DEP x = true ∧ shL DEP ys = true then some (.bl (ys.any fun y => eqv y x)) else none
  | .tup ys => if sh DEP x = true ∧ shL DEP ys = true then some (.bl (ys.any fun y => eqv y x)) else none
  | _ => none
def gNi (x c : D) : Option D := match gIn x c with
  | some (.bl b) => some (.bl (!b))
  | _ => none
def gIsN (x y : D) : Option D := match x, y with
  | .non, .non => some (.bl true)
  | _, .non => some (.bl false)
  | _, _ => none
def gNoN (x y : D) : Option D := match x, y with
  | .non, .non => some (.bl false)
  | _, .non => some (.bl true)
  | _, _ => none
def iB (p : Int → Int → Bool) (x y : D) : Option D := match x, y with
  | .int i, .int j => some (.bl (p i j))
  | _, _ => none
def gLt := iB fun i j => decide (i < j)
def gLe := iB fun i j => decide (i ≤ j)
def gGt := iB fun i j => decide (j < i)
def gGe := iB fun i j => decide (j ≤ i)
def gAdd (x y : D) : Option D := match x, y with
  | .int i, .int j => some (.int (i + j))
  | .str a, .str b => if a.length + b.length ≤ 1000000 then some (.str (a ++ b)) else none
  | .tup a, .tup b => if a.length + b.length ≤ 1000000 then some (.tup (a ++ b)) else none
  | _, _ => none
def gAddL (x y : D) : Option D := match x, y with
  | .lst a, .lst b => if a.length + b.length ≤ 1000000 then some (.lst (a ++ b)) else none
  | _, _ => none
def gSub (x y : D) : Option D := match x, y with
  | .int i, .int j => some (.int (i - j))
  | _, _ => none
def gMul (x y : D) : Option D := match x, y with
  | .int i, .int j => if (-(2 ^ 64) < i ∧ i < 2 ^ 64) ∨ (-(2 ^ 64) < j ∧ j < 2 ^ 64) then some (.int (i * j)) else none
  | _, _ => none
def gRep (x y : D) : Option D := match x, y with
  | .tup xs, .int k => if xs ≠ [] ∧ 0 ≤ k ∧ k ≤ 1000 ∧ xs.length ≤ 1000 then some (.tup (List.replicate k.toNat xs).flatten) else none
  | _, _ => none
def gFdv (x y : D) : Option D := match x, y with
  | .int i, .int j => if 0 < j ∧ j < 1073741824 then some (.int (i / j)) else none
  | _, _ => none
def gMod (x y : D) : Option D := match x, y with
  | .int i, .int j => if 0 < j then some (.int (i % j)) else none
  | _, _ => none
def gPow (x y : D) : Option D := match x, y with
  | .int i, .int j => if 0 ≤ j ∧ j ≤ 1000 ∧ i.natAbs < 2 ^ 64 then some (.int (i ^ j.toNat)) else none
  | _, _ => none
def gNeg : D → Option D
  | .int i => some (.int (-i))
  | _ => none
def atD {α : Type} (xs : List α) (i : Int) : Option α := (Cr.ixN xs.length i).bind fun j => xs[j]?
def gIx (x i : D) : Option D := match x, i with
  | .lst xs, .int j => atD xs j
  | .tup xs, .int j => atD xs j
  | .str s, .int j => if s.length ≤ 1000000 then (atD s.cps.toList j).map fun c => .str ⟨#[c]⟩ else none
  | _, _ => none
/-- a slice's bound -/
def sIx (n d : Nat) : Option Int → Nat
  | none => d
  | some i => if i < 0 then (i + n).toNat else min i.toNat n
def cutD {α : Type} (xs : List α) (lo hi : Option Int) : List α := (xs.drop (Cr.sIx xs.length 0 lo)).take (Cr.sIx xs.length xs.length hi - Cr.sIx xs.length 0 lo)
/-! ### built-ins -/
def bLen : List D → Option D
  | [.lst xs] => some (.int xs.length)
  | [.tup xs] => some (.int xs.length)
  | [.str s] => if s.length ≤ 1000000 then some (.int s.length) else none
  | _ => none
def bAbs : List D → Option D
  | [.int i] => some (.int (if i < 0 then -i else i))
  | _ => none
def bInt : List D → Option D
  | [.int i] => some (.int i)
  | [.bl k] => some (.int (if k then 1 else 0))
  | _ => none
def bMax2 : List D → Option D
  | [.int i, .int j] => some (.int (if j > i then j else i))
  | _ => none
def bMin2 : List D → Option D
  | [.int i, .int j] => some (.int (if j < i then j else i))
  | _ => none
def intsD : List D → Option (List Int)
  | [] => some []
  | .int i :: r => (intsD r).map (i :: ·)
  | _ => none
def bSum : List D → Option D
  | [.lst xs] => (intsD xs).map fun ns => .int ns.sum
  | _ => none
def bList : List D → Option D
  | [.lst xs] => some (.lst xs)
  | [.tup xs] => some (.lst xs)
  | _ => none
def bTuple : List D → Option D
  | [.lst xs] => some (.tup xs)
  | [.tup xs] => some (.tup xs)
  | _ => none
inductive Ty where
  | int | bool | tuple | list | str
def isi : Ty → D → Option Bool
  | .int, .non => some false | .int, .bl _ => some true | .int, .int _ => some true | .int, .str _ => some false | .int, .tup _ => some false | .int, .lst _ => some false
  | .bool, .non => some false | .bool, .bl _ => some true | .bool, .int _ => some false | .bool, .str _ => some false | .bool, .tup _ => some false | .bool, .lst _ => some false
  | .tuple, .non => some false | .tuple, .bl _ => some false | .tuple, .int _ => some false | .tuple, .str _ => some false | .tuple, .tup _ => some true | .tuple, .lst _ => some false
  | .list, .non => some false | .list, .bl _ => some false | .list, .int _ => some false | .list, .str _ => some false | .list, .tup _ => some false | .list, .lst _ => some true
  | .str, .non => some false | .str, .bl _ => some false | .str, .int _ => some false | .str, .str _ => some true | .str, .tup _ => some false | .str, .lst _ => some false
  | _, _ => none
def gIsi (T : Ty) (d : D) : Option D := (isi T d).map .bl
end Cr
namespace Cr
mutual
/-- no list, dict or set within -/
def noL : D → Bool
  | .non | .bl _ | .int _ | .str _ => true
  | .tup xs => noLL xs
  | _ => false
def noLL : List D → Bool
  | [] => true
  | x :: xs => noL x && noLL xs
end
/-- the list that slot i owns, walked as it stands at each turn -/
def compO (i : Nat) (vs : List Nat) (t : Tg) (c : M Bool) (x : M D) : Nat → Nat → List D → M (List D)
  | 0, _, _ => badM
  | n + 1, k, acc => bd (rd i) fun l => match l with
    | .lst xs => (match xs[k]? with
      | none => pu acc
      | some d => bd (fun e => .ok () (wipeE e vs)) fun _ => bd (stT (t d) ()) fun _ => bd c fun b => if b = true then bd x fun y => compO i vs t c x n (k + 1) (acc ++ [y]) else compO i vs t c x n (k + 1) acc)
    | _ => badM
def lcO (i : Nat) (vs : List Nat) (t : Tg) (c : M Bool) (x : M D) : M D := fun e => match compO i vs t c x 1000000 0 [] e with
  | .ok ys e1 => .ok (.lst ys) (restE e e1 vs)
  | .exn _ _ => .bad
  | .bad => .bad
def loopO (i : Nat) (t : Tg) (b : S) : Nat → Nat → S
  | 0, _ => badM
  | n + 1, k => bd (rd i) fun l => match l with
    | .lst xs => (match xs[k]? with
      | none => nx
      | some d => bd (stT (t d) ()) fun _ => bd b fun f => match f with
        | .nx => loopO i t b n (k + 1)
        | .ct => loopO i t b n (k + 1)
        | .bk => nx
        | .rt r => pu (.rt r))
    | _ => badM
end Cr
namespace Cr
/-- insertion into a rising list -/
def ins (x : Int) : List Int → List Int
  | [] => [x]
  | y :: r => if x ≤ y then x :: y :: r else y :: ins x r
def isort : List Int → List Int
  | [] => []
  | x :: r => ins x (isort r)
/-- .. without equal ones -/
def insU (x : Int) : List Int → List Int
  | [] => [x]
  | y :: r => if x < y then x :: y :: r else if x = y then y :: r else y :: insU x r
def usort : List Int → List Int
  | [] => []
  | x :: r => insU x (usort r)
def bSortI : List D → Option D
  | [.lst xs] => (intsD xs).map fun ns => .lst ((isort ns).map .int)
  | _ => none
/-- sorted(set(xs)) -/
def bSetI : List D → Option D
  | [.lst xs] => match intsD xs with
    | some ns => if ns.length ≤ 50 then some (.lst ((usort ns).map .int)) else none
    | none => none
  | _ => none
theorem ins_perm (x : Int) : ∀ l : List Int, (ins x l).Perm (x :: l)
  | [] => .refl _
  | y :: r => by
    unfold ins
    split
    · exact .refl _
    · exact ((ins_perm x r).cons y).trans (.swap x y r)
theorem isort_perm : ∀ l : List Int, (isort l).Perm l
  | [] => .refl _
  | x :: r => (ins_perm x (isort r)).trans ((isort_perm r).cons x)
theorem ins_pw (x : Int) : ∀ {l : List Int}, l.Pairwise (· ≤ ·) → (ins x l).Pairwise (· ≤ ·)
  | [], _ => List.pairwise_singleton _ _
  | y :: r, h => by
    unfold ins
    split
    · rename_i q
      exact List.pairwise_cons.mpr ⟨fun z hz => by
        rcases List.mem_cons.mp hz with e | e
        · omega
        · have := (List.pairwise_cons.mp h).1 z e; omega, h⟩
    · rename_i q
      have h' := List.pairwise_cons.mp h
      refine List.pairwise_cons.mpr ⟨fun z hz => ?_, ins_pw x h'.2⟩
      rcases List.mem_cons.mp ((ins_perm x r).mem_iff.mp hz) with e | e
      · omega
      · exact h'.1 z e
theorem isort_pw : ∀ l : List Int, (isort l).Pairwise (· ≤ ·)
  | [] => List.Pairwise.nil
  | x :: r => ins_pw x (isort_pw r)
theorem insU_mem (x : Int) : ∀ (l : List Int) (z : Int), z ∈ insU x l ↔ z = x ∨ z ∈ l
  | [], z => by simp [insU]
  | y :: r, z => by
    unfold insU
    split
    · simp
    · split
      · rename_i e; subst e; simp
      · simp only [List.mem_cons, insU_mem x r z]
        constructor
        · rintro (h | h | h) <;> simp [h]
        · rintro (h | h | h) <;> simp [h]
theorem insU_pw (x : Int) : ∀ {l : List Int}, l.Pairwise (· < ·) → (insU x l).Pairwise (· < ·)
  | [], _ => List.pairwise_singleton _ _
  | y :: r, h => by
    have h' := List.pairwise_cons.mp h
    unfold insU
    split
    · rename_i q
      exact List.pairwise_cons.mpr ⟨fun z hz => by
        rcases List.mem_cons.mp hz with e | e
        · omega
        · have := h'.1 z e; omega, h⟩
    · split
      · exact h
      · refine List.pairwise_cons.mpr ⟨fun z hz => ?_, insU_pw x h'.2⟩
        rcases (insU_mem x r z).mp hz with e | e
        · omega
        · exact h'.1 z e
theorem usort_mem : ∀ (l : List Int) (z : Int), z ∈ usort l ↔ z ∈ l
  | [], z => by simp [usort]
  | x :: r, z => by simp only [usort, insU_mem, usort_mem r, List.mem_cons]
theorem usort_pw : ∀ l : List Int, (usort l).Pairwise (· < ·)
  | [] => List.Pairwise.nil
  | x :: r => insU_pw x (usort_pw r)
theorem pw_le_eq : ∀ {a b : List Int}, a.Perm b → a.Pairwise (· ≤ ·) → b.Pairwise (· ≤ ·) → a = b := fun h ha hb =>
  List.Perm.eq_of_pairwise (le := fun x y => x ≤ y) (fun _ _ _ _ h1 h2 => Int.le_antisymm h1 h2) ha hb h
theorem pw_lt_eq {a b : List Int} (h : ∀ z, z ∈ a ↔ z ∈ b) (ha : a.Pairwise (· < ·)) (hb : b.Pairwise (· < ·)) : a = b := by
  have nd : ∀ {l : List Int}, l.Pairwise (· < ·) → l.Nodup := fun h => h.imp fun h => by omega
  exact pw_le_eq ((List.perm_ext_iff_of_nodup (nd ha) (nd hb)).mpr h) (ha.imp fun h => by omega) (hb.imp fun h => by omega)
end Cr

end
section
set_option maxRecDepth 100000
set_option maxHeartbeats 4000000
/-! Lk: how the plain functions of Cr lie over the hand layer: what a value stands for (Rep), what the slots hold (RepE), the readings (tE, tF, tS) and a rule for each construct. -/
namespace Lk
open PySem PySem.Spec PyProof.Rows L2 Cr

/-! ### what a value stands for -/
def WrT (K : PySem.W.Frag) (a : Addr) (xs : List V) : Prop := ∃ (o : Obj) (its : Array Value) (n : Nat), K.lookup a = some o ∧ o.cls = .type "tuple" ∧ o.data = .seq its n ∧ its.size ≤ sizeLine ∧ Vals xs its.toList
def WrL (K : PySem.W.Frag) (a : Addr) (xs : List V) : Prop := ∃ (o : Obj) (its : Array Value) (n : Nat), K.lookup a = some o ∧ o.cls = .type "list" ∧ o.dict = none ∧ o.data = .seq its n ∧ its.size ≤ sizeLine ∧ Vals xs its.toList
def TupA (K : PySem.W.Frag) (O : Addr → Prop) (H : Hp) (a : Addr) (xs : List V) : Prop := (¬ O a ∧ Rd H a (.tup xs)) ∨ WrT K a xs
def LstA (K : PySem.W.Frag) (O : Addr → Prop) (H : Hp) (a : Addr) (xs : List V) : Prop := (¬ O a ∧ Rd H a (.lst xs)) ∨ WrL K a xs
mutual
def Rep (K : PySem.W.Frag) (O : Addr → Prop) (H : Hp) : D → V → Prop
  | .non, v => v = .non
  | .bl b, v => v = .bl b
  | .int i, v => v = .int i
  | .str s, v => v = .str s
  | .tup ds, v => ∃ a vs, v = .ref a ∧ TupA K O H a vs ∧ RepL K O H ds vs
  | .lst ds, v => ∃ a vs, v = .ref a ∧ LstA K O H a vs ∧ RepL K O H ds vs
  | .dct _, _ => False
  | .set _, _ => False
def RepL (K : PySem.W.Frag) (O : Addr → Prop) (H : Hp) : List D → List V → Prop
  | [], vs => vs = []
  | d :: ds, vs => ∃ v r, vs = v :: r ∧ Rep K O H d v ∧ RepL K O H ds r
end
section
variable {K : PySem.W.Frag} {O O' : Addr → Prop} {H H' : Hp}
/-- what lies outside O stands -/
def Keeps (O : Addr → Prop) (H H' : Hp) : Prop := ∀ a o, H a = some o → ¬ O a → H' a = some o
def Grows (O O' : Addr → Prop) (H : Hp) : Prop := ∀ a, O' a → O a ∨ H a = none
theorem Rd.keep {a : Addr} {u : HO} (k : Keeps O H H') (n : ¬ O a) (r : Rd H a u) : Rd H' a u := by
  rcases r with r | ⟨o, r⟩
  · exact .inl (k a _ r n)
  · exact .inr ⟨o, k a _ r n⟩
theorem Rd.some {a : Addr} {u : HO} (r : Rd H a u) : H a ≠ none := by
  rcases r with r | ⟨o, r⟩ <;> (intro e; rw [e] at r; cases r)
theorem TupA.move {a : Addr} {xs : List V} (k : Keeps O H H') (g : Grows O O' H) (h : TupA K O H a xs) : TupA K O' H' a xs := by
  rcases h with ⟨n, r⟩ | h
  · exact .inl ⟨fun z => (g a z).elim n (Rd.some r), Rd.keep k n r⟩
  · exact .inr h
theorem LstA.move {a : Addr} {xs : List V} (k : Keeps O H H') (g : Grows O O' H) (h : LstA K O H a xs) : LstA K O' H' a xs := by
  rcases h with ⟨n, r⟩ | h
  · exact .inl ⟨fun z => (g a z).elim n (Rd.some r), Rd.keep k n r⟩
  · exact .inr h
mutual
theorem Rep.move (k : Keeps O H H') (g : Grows O O' H) : ∀ (d : D) (v : V), Rep K O H d v → Rep K O' H' d v
  | .non, _, h => h
  | .bl _, _, h => h
  | .int _, _, h => h
  | .str _, _, h => h
  | .tup ds, v, h => by
    obtain ⟨a, vs, e, t, l⟩ := h
    exact ⟨a, vs, e, t.move k g, RepL.move k g ds vs l⟩
  | .lst ds, v, h => by
    obtain ⟨a, vs, e, t, l⟩ := h
    exact ⟨a, vs, e, t.move k g, RepL.move k g ds vs l⟩
  | .dct _, _, h => h.elim
  | .set _, _, h => h.elim
theorem RepL.move (k : Keeps O H H') (g : Grows O O' H) : ∀ (ds : List D) (vs : List V), RepL K O H ds vs → RepL K O' H' ds vs
  | [], _, h => h
  | d :: ds, _, h => by
    obtain ⟨v, r, e, h1, h2⟩ := h
    exact ⟨v, r, e, Rep.move k g d v h1, RepL.move k g ds r h2⟩
end
theorem Keeps.rfl' : Keeps O H H := fun _ _ h _ => h
theorem Rep.weak (w : ∀ a, O' a → O a) {d : D} {v : V} (h : Rep K O H d v) : Rep K O' H d v := Rep.move Keeps.rfl' (fun a z => .inl (w a z)) d v h
theorem RepL.weak (w : ∀ a, O' a → O a) {d : List D} {v : List V} (h : RepL K O H d v) : RepL K O' H d v := RepL.move Keeps.rfl' (fun a z => .inl (w a z)) d v h
theorem RepL.length : ∀ {ds : List D} {vs : List V}, RepL K O H ds vs → vs.length = ds.length
  | [], _, h => by cases h; rfl
  | d :: ds, _, h => by
    obtain ⟨v, r, rfl, _, h2⟩ := h
    simp [RepL.length h2]
theorem RepL.get : ∀ {ds : List D} {vs : List V} {i : Nat} {d : D}, RepL K O H ds vs → ds[i]? = some d → ∃ v, vs[i]? = some v ∧ Rep K O H d v
  | [], _, _, _, _, e => by simp at e
  | d :: ds, _, 0, x, h, e => by
    obtain ⟨v, r, rfl, h1, _⟩ := h
    simp at e; subst e; exact ⟨v, rfl, h1⟩
  | d :: ds, _, i + 1, x, h, e => by
    obtain ⟨v, r, rfl, _, h2⟩ := h
    obtain ⟨u, q1, q2⟩ := RepL.get (i := i) h2 (by simpa using e)
    exact ⟨u, by simpa using q1, q2⟩
theorem RepL.append : ∀ {ds es : List D} {vs us : List V}, RepL K O H ds vs → RepL K O H es us → RepL K O H (ds ++ es) (vs ++ us)
  | [], _, _, _, h, q => by cases h; exact q
  | d :: ds, es, _, us, h, q => by
    obtain ⟨v, r, rfl, h1, h2⟩ := h
    exact ⟨v, r ++ us, rfl, h1, RepL.append h2 q⟩
theorem RepL.one {d : D} {v : V} (h : Rep K O H d v) : RepL K O H [d] [v] := ⟨v, [], rfl, h, rfl⟩
theorem RepL.set : ∀ {ds : List D} {vs : List V} {i : Nat} {d : D} {v : V}, RepL K O H ds vs → Rep K O H d v → RepL K O H (ds.set i d) (vs.set i v)
  | [], _, _, _, _, h, _ => by cases h; rfl
  | d :: ds, _, 0, x, y, h, q => by
    obtain ⟨v, r, rfl, _, h2⟩ := h
    exact ⟨y, r, rfl, q, h2⟩
  | d :: ds, _, i + 1, x, y, h, q => by
    obtain ⟨v, r, rfl, h1, h2⟩ := h
    exact ⟨v, r.set i y, rfl, h1, RepL.set h2 q⟩
theorem TupA.sq {a : Addr} {xs : List V} (h : TupA K O H a xs) : SqT K H a xs := by
  rcases h with ⟨_, r⟩ | h
  · exact .inl r
  · exact .inr h
theorem LstA.sq {a : Addr} {xs : List V} (h : LstA K O H a xs) : SqL K H a xs := by
  rcases h with ⟨_, r⟩ | h
  · exact .inl r
  · exact .inr h
end

/-! ### modes: what a slot holds -/
inductive Md where
  /-- data (never changed) | a list that only this slot has, its items data -/
  | dat | ol
  deriving DecidableEq
def RepM (K : PySem.W.Frag) (O : Addr → Prop) (H : Hp) : Md → D → V → List Addr → Prop
  | .dat, d, v, fp => fp = [] ∧ Rep K O H d v
  | .ol, d, v, fp => ∃ a vs ds, d = .lst ds ∧ v = .ref a ∧ fp = [a] ∧ H a = some (.lst vs) ∧ RepL K O H ds vs
section
variable {K : PySem.W.Frag} {O O' : Addr → Prop} {H H' : Hp} {md : Md} {d : D} {v : V} {fp : List Addr}
theorem RepM.move (k : Keeps O H H') (g : Grows O O' H) (hf : ∀ a ∈ fp, ∀ o, H a = some o → H' a = some o) (h : RepM K O H md d v fp) : RepM K O' H' md d v fp := by
  cases md with
  | dat => exact ⟨h.1, Rep.move k g _ _ h.2⟩
  | ol =>
    obtain ⟨a, vs, ds, rfl, rfl, rfl, e, l⟩ := h
    exact ⟨a, vs, ds, rfl, rfl, rfl, hf a (List.mem_singleton.mpr rfl) _ e, RepL.move k g _ _ l⟩
theorem RepM.dom (h : RepM K O H md d v fp) : ∀ a ∈ fp, H a ≠ none := by
  cases md with
  | dat => rw [h.1]; intro a ha; cases ha
  | ol =>
    obtain ⟨a, vs, ds, rfl, rfl, rfl, e, l⟩ := h
    intro b hb
    rw [List.mem_singleton.mp hb, e]
    intro z; cases z
theorem RepM.nodup (h : RepM K O H md d v fp) : fp.Nodup := by
  cases md with
  | dat => rw [h.1]; exact List.nodup_nil
  | ol =>
    obtain ⟨a, vs, ds, rfl, rfl, rfl, e, l⟩ := h
    simp
end

/-! ### the slots -/
abbrev Fp := Nat → List Addr
def Own (F : Fp) (P : Addr → Prop) : Addr → Prop := fun a => P a ∨ ∃ i, a ∈ F i
structure RepE (K : PySem.W.Frag) (G : Nat → Md) (H : Hp) (σ : L2.St) (ε : Sl) (F : Fp) (P : Addr → Prop) : Prop where
  len : ε.length = σ.length
  val : ∀ (i : Nat) (d : D), ε[i]? = some (some d) → ∃ v, σ[i]? = some (some v) ∧ RepM K (Own F P) H (G i) d v (F i)
  non : ∀ i : Nat, (∀ d, ε[i]? ≠ some (some d)) → F i = []
  sep : ∀ (i j : Nat) (a : Addr), a ∈ F i → a ∈ F j → i = j
  out : ∀ (i : Nat) (a : Addr), a ∈ F i → ¬ P a
  dom : ∀ a, Own F P a → H a ≠ none
/-- a step: only what the slots own may have changed; what they own now is old or new -/
structure Fr (F : Fp) (H : Hp) (F' : Fp) (H' : Hp) : Prop where
  keep : ∀ a o, H a = some o → (∀ i, a ∉ F i) → H' a = some o
  grow : ∀ (i : Nat) (a : Addr), a ∈ F' i → (∃ j, a ∈ F j) ∨ H a = none
  live : ∀ a, H a ≠ none → H' a ≠ none
section
variable {K : PySem.W.Frag} {G : Nat → Md} {H H' H'' : Hp} {σ σ' : L2.St} {ε ε' : Sl} {F F' F'' : Fp} {P P' : Addr → Prop}
theorem Fr.refl : Fr F H F H := ⟨fun _ _ h _ => h, fun i a h => .inl ⟨i, h⟩, fun _ h => h⟩
theorem Fr.trans (x : Fr F H F' H') (y : Fr F' H' F'' H'') : Fr F H F'' H'' := by
  refine ⟨fun a o h n => y.keep a o (x.keep a o h n) fun i hi => ?_, fun i a h => ?_, fun a h => y.live a (x.live a h)⟩
  · rcases x.grow i a hi with ⟨j, hj⟩ | hn
    · exact n j hj
    · rw [hn] at h; cases h
  · rcases y.grow i a h with ⟨j, hj⟩ | hn
    · exact x.grow j a hj
    · by_cases q : ∃ j, a ∈ F j
      · exact .inl q
      · refine .inr ?_
        cases e : H a with
        | none => rfl
        | some o =>
          rw [x.keep a o e fun i hi => q ⟨i, hi⟩] at hn
          cases hn
theorem Fr.keeps (x : Fr F H F' H') : Keeps (Own F P) H H' := fun a o h n => x.keep a o h fun i hi => n (.inr ⟨i, hi⟩)
theorem Fr.grows (x : Fr F H F' H') : Grows (Own F P) (Own F' P) H := fun a z => by
  rcases z with z | ⟨i, z⟩
  · exact .inl (.inl z)
  · rcases x.grow i a z with ⟨j, hj⟩ | hn
    · exact .inl (.inr ⟨j, hj⟩)
    · exact .inr hn
theorem Fr.rep (x : Fr F H F' H') {d : D} {v : V} (h : Rep K (Own F P) H d v) : Rep K (Own F' P) H' d v := Rep.move x.keeps x.grows d v h
theorem Fr.repL (x : Fr F H F' H') {d : List D} {v : List V} (h : RepL K (Own F P) H d v) : RepL K (Own F' P) H' d v := RepL.move x.keeps x.grows d v h
/-- a step by which the heap only grows -/
theorem Fr.ext (h : ∀ a o, H a = some o → H' a = some o) : Fr F H F H' := ⟨fun a o e _ => h a o e, fun i a h => .inl ⟨i, h⟩, fun a n e => by
  cases q : H a with
  | none => exact n q
  | some o => rw [h a o q] at e; cases e⟩
theorem Fr.back (x : Fr F H F' H') {a : Addr} (hn : H' a = none) : H a = none := by
  cases e : H a with
  | none => rfl
  | some o => exact absurd hn (x.live a (by rw [e]; intro z; cases z))
theorem same_upd {p : Addr} {o : HO} (h : H p = none) : ∀ a u, H a = some u → upd H p o a = some u := fun a u e => by
  rw [upd_ne (ne_of_none e h)]
  exact e
/-- the heap grows; what is kept apart may grow by new things -/
theorem RepE.ext (R : RepE K G H σ ε F P) (h : ∀ a o, H a = some o → H' a = some o) (hp : ∀ a, P' a → P a ∨ (H a = none ∧ H' a ≠ none)) : RepE K G H' σ ε F P' := by
  have g : Grows (Own F P) (Own F P') H := fun a z => by
    rcases z with z | z
    · rcases hp a z with z | z
      · exact .inl (.inl z)
      · exact .inr z.1
    · exact .inl (.inr z)
  refine ⟨R.len, fun i d e => ?_, R.non, R.sep, fun i a hi hP => ?_, fun a z => ?_⟩
  · obtain ⟨v, hv, r⟩ := R.val i d e
    exact ⟨v, hv, r.move (fun a o h' _ => h a o h') g fun a _ o h' => h a o h'⟩
  · rcases hp a hP with q | ⟨q, _⟩
    · exact R.out i a hi q
    · exact R.dom a (.inr ⟨i, hi⟩) q
  · rcases z with z | ⟨i, z⟩
    · rcases hp a z with q | ⟨_, q⟩
      · intro e
        cases e1 : H a with
        | none => exact R.dom a (.inl q) e1
        | some o => rw [h a o e1] at e; cases e
      · exact q
    · intro e
      cases e1 : H a with
      | none => exact R.dom a (.inr ⟨i, z⟩) e1
      | some o => rw [h a o e1] at e; cases e
theorem RepE.grow (R : RepE K G H σ ε F P) (h : ∀ a o, H a = some o → H' a = some o) : RepE K G H' σ ε F P := R.ext h fun a z => .inl z
/-- a slot that holds data -/
theorem RepE.dat (R : RepE K G H σ ε F P) {i : Nat} {d : D} (e : ε[i]? = some (some d)) (hG : G i = .dat) : ∃ v, σ[i]? = some (some v) ∧ Rep K (Own F P) H d v := by
  obtain ⟨v, hv, r⟩ := R.val i d e
  rw [hG] at r
  exact ⟨v, hv, r.2⟩
end
end Lk

end
section
set_option maxRecDepth 100000
set_option maxHeartbeats 4000000
/-! Lk2: the readings, and the rules for expressions. -/
namespace Lk
open PySem PySem.Spec PyProof.Rows L2 Cr
/-! ### the readings -/
structure Cc where
  K : PySem.W.Frag
  G : Nat → Md
  W : Nat → L2.St → Hp → Prop
  pin : Nat → Bool
  rm : Md
def Okk {α : Type} (C : Cc) (σ : L2.St) (H : Hp) (F : Fp) (P : Addr → Prop) (o : Out α) (Q : α → Sl → Hp → Fp → Prop) : Prop :=
  match o with
  | .ok a ε' => ∀ H' F', RepE C.K C.G H' σ ε' F' P → Fr F H F' H' → Q a ε' H' F'
  | .exn c ε' => ∀ H' F', RepE C.K C.G H' σ ε' F' P → Fr F H F' H' → C.W c σ H'
  | .bad => False
section
variable {C : Cc} {σ : L2.St} {H H1 : Hp} {F F1 : Fp} {P : Addr → Prop} {ε ε1 : Sl} {α β : Type}
theorem Okk.step {o : Out α} {Q : α → Sl → Hp → Fp → Prop} (h : Okk C σ H F P o Q) (x : Fr F H F1 H1) : Okk C σ H1 F1 P o Q := by
  cases o with
  | ok a e => exact fun H' F' R y => h H' F' R (x.trans y)
  | exn c e => exact fun H' F' R y => h H' F' R (x.trans y)
  | bad => exact h
theorem Okk.imp {o : Out α} {Q Q' : α → Sl → Hp → Fp → Prop} (h : Okk C σ H F P o Q) (i : ∀ a e H' F', RepE C.K C.G H' σ e F' P → Fr F H F' H' → Q a e H' F' → Q' a e H' F') : Okk C σ H F P o Q' := by
  cases o with
  | ok a e => exact fun H' F' R y => i a e H' F' R y (h H' F' R y)
  | exn c e => exact h
  | bad => exact h
theorem Okk.bd {m : M α} {f : α → M β} {Q : β → Sl → Hp → Fp → Prop} (h : Okk C σ H F P (Cr.bd m f ε) Q) : Okk C σ H F P (m ε) fun a ε1 H1 F1 => Okk C σ H1 F1 P (f a ε1) Q := by
  unfold Cr.bd at h
  cases e : m ε with
  | ok a e1 =>
    rw [e] at h
    exact fun H' F' R y => Okk.step h y
  | exn c e1 =>
    rw [e] at h
    exact h
  | bad =>
    rw [e] at h
    exact h
theorem Okk.here {a : α} {Q : α → Sl → Hp → Fp → Prop} (h : Okk C σ H F P (.ok a ε) Q) (R : RepE C.K C.G H σ ε F P) : Q a ε H F := h H F R Fr.refl
theorem Okk.opt {o : Option α} {Q : α → Sl → Hp → Fp → Prop} (h : Okk C σ H F P (Cr.opt o ε) Q) : ∃ a, o = some a ∧ ∀ H' F', RepE C.K C.G H' σ ε F' P → Fr F H F' H' → Q a ε H' F' := by
  cases o with
  | none => exact h.elim
  | some a => exact ⟨a, rfl, h⟩
theorem rd_ok {i : Nat} {d : D} {e e' : Sl} (h : rd i e = .ok d e') : e[i]? = some (some d) ∧ e' = e := by
  unfold rd at h
  split at h
  · rename_i d' q
    injection h with h1 h2
    subst h1; subst h2
    exact ⟨q, rfl⟩
  · cases h
theorem Okk.rd {i : Nat} {Q : D → Sl → Hp → Fp → Prop} (h : Okk C σ H F P (Cr.rd i ε) Q) : ∃ d, ε[i]? = some (some d) ∧ ∀ H' F', RepE C.K C.G H' σ ε F' P → Fr F H F' H' → Q d ε H' F' := by
  cases e : Cr.rd i ε with
  | ok d e' =>
    rw [e] at h
    obtain ⟨q, rfl⟩ := rd_ok e
    exact ⟨d, q, h⟩
  | exn c e' =>
    unfold Cr.rd at e
    split at e <;> cases e
  | bad => rw [e] at h; exact h.elim
end
/-- a wish about an outcome that stands through steps -/
structure Stp (C : Cc) (σ : L2.St) (P : Addr → Prop) {β : Type} (Φ : Hp → Fp → Out β → Prop) : Prop where
  step : ∀ H F o H1 F1, Φ H F o → Fr F H F1 H1 → Φ H1 F1 o
  exn : ∀ H F c ε, Φ H F (.exn c ε) → ∀ H' F', RepE C.K C.G H' σ ε F' P → Fr F H F' H' → C.W c σ H'
  bad : ∀ H F, ¬ Φ H F .bad
theorem Okk.stp {C : Cc} {σ : L2.St} {P : Addr → Prop} {β : Type} {Q : β → Sl → Hp → Fp → Prop} : Stp C σ P (fun H F o => Okk C σ H F P o Q) := ⟨fun _ _ _ _ _ h x => h.step x, fun _ _ _ _ h => h, fun _ _ h => h⟩
theorem Stp.bd {C : Cc} {σ : L2.St} {P : Addr → Prop} {α β : Type} {Φ : Hp → Fp → Out β → Prop} (S : Stp C σ P Φ) {m : M α} {f : α → M β} {H : Hp} {F : Fp} {ε : Sl} (h : Φ H F (Cr.bd m f ε)) :
    Okk C σ H F P (m ε) fun a ε1 H1 F1 => Φ H1 F1 (f a ε1) := by
  unfold Cr.bd at h
  cases e : m ε with
  | ok a e1 =>
    rw [e] at h
    exact fun H' F' R y => S.step _ _ _ _ _ h y
  | exn c e1 =>
    rw [e] at h
    exact S.exn _ _ _ _ h
  | bad =>
    rw [e] at h
    exact S.bad _ _ h
/-- the wish about what a slot may own -/
def OkF (C : Cc) (md : Md) (σ : L2.St) (Q : VK) (P : Addr → Prop) (H : Hp) (F : Fp) (o : Out D) : Prop :=
  match o with
  | .ok d ε' => ∀ v H' F' fp, RepE C.K C.G H' σ ε' F' (fun a => P a ∨ a ∈ fp) → Fr F H F' H' → (∀ a ∈ fp, H a = none) → RepM C.K (Own F' (fun a => P a ∨ a ∈ fp)) H' md d v fp → Q v H'
  | .exn c ε' => ∀ H' F', RepE C.K C.G H' σ ε' F' P → Fr F H F' H' → C.W c σ H'
  | .bad => False
theorem OkF.stp {C : Cc} {md : Md} {σ : L2.St} {Q : VK} {P : Addr → Prop} : Stp C σ P (OkF C md σ Q P) := by
  refine ⟨fun H F o H1 F1 h x => ?_, fun _ _ _ _ h => h, fun _ _ h => h⟩
  cases o with
  | ok d e => exact fun v H' F' fp R y n r => h v H' F' fp R (x.trans y) (fun a ha => x.back (n a ha)) r
  | exn c e => exact fun H' F' R y => h H' F' R (x.trans y)
  | bad => exact h
/-- an expression whose value is data -/
def tE (C : Cc) (m : M D) : TE := fun σ H Q => ∃ ε F P, RepE C.K C.G H σ ε F P ∧ Okk C σ H F P (m ε) fun d _ H' F' => ∀ v, Rep C.K (Own F' P) H' d v → Q v H'
/-- a test -/
def tT (C : Cc) (m : M Bool) : TT := fun σ H Q => ∃ ε F P, RepE C.K C.G H σ ε F P ∧ Okk C σ H F P (m ε) fun b _ H' _ => Q b H'
/-- an expression whose value is a new list (or what else a slot may own) -/
def tF (C : Cc) (md : Md) (m : M D) : TE := fun σ H Q => ∃ ε F P, RepE C.K C.G H σ ε F P ∧ OkF C md σ Q P H F (m ε)
def tO (C : Cc) : Opd → TE
  | .d m => tE C m
  | .o i => tVar i
def tAs (C : Cc) : List Opd → TA
  | [] => tNil
  | o :: r => tCons (tO C o) (tAs C r)
section
variable {X : Cx} {e : Expr} {st : Stmt} {sts : List Stmt} {es : List Expr}
theorem PE.mono {t t' : TE} (h : PE X e t) (m : ∀ σ H Q, t' σ H Q → t σ H Q) : PE X e t' := ⟨fun pins s σ H Q I q => h.run pins s σ H Q I (m _ _ _ q)⟩
theorem PT.mono {t t' : TT} (h : PT X e t) (m : ∀ σ H Q, t' σ H Q → t σ H Q) : PT X e t' := ⟨fun pins s σ H Q I q => h.run pins s σ H Q I (m _ _ _ q)⟩
theorem PW.mono {t t' : TT} (h : PW X e t) (m : ∀ σ H Q, t' σ H Q → t σ H Q) : PW X e t' := ⟨fun wh pins s σ H Q I q => h.run wh pins s σ H Q I (m _ _ _ q)⟩
theorem PA.mono {t t' : TA} (h : PA X es t) (m : ∀ σ H Q, t' σ H Q → t σ H Q) : PA X es t' := ⟨fun pos pins s σ H Q I q => h.run pos pins s σ H Q I (m _ _ _ q)⟩
theorem PS.mono {t t' : TS} (h : PS X st t) (m : ∀ D σ H, t' D σ H → t D σ H) : PS X st t' := ⟨fun pins s σ H D I q => h.run pins s σ H D I (m _ _ _ q)⟩
theorem PSs.mono {t t' : TS} (h : PSs X sts t) (m : ∀ D σ H, t' D σ H → t D σ H) : PSs X sts t' := ⟨fun pins s σ H D I q => h.run pins s σ H D I (m _ _ _ q)⟩
end
/-! ### what an operand's value is read as: its root may be owned -/
def RepW (K : PySem.W.Frag) (O : Addr → Prop) (H : Hp) : D → V → Prop
  | .lst ds, v => ∃ a vs, v = .ref a ∧ SqL K H a vs ∧ RepL K O H ds vs
  | .non, v => Rep K O H .non v
  | .bl b, v => Rep K O H (.bl b) v
  | .int i, v => Rep K O H (.int i) v
  | .str s, v => Rep K O H (.str s) v
  | .tup ds, v => Rep K O H (.tup ds) v
  | .dct k, v => Rep K O H (.dct k) v
  | .set k, v => Rep K O H (.set k) v
inductive RepWL (K : PySem.W.Frag) (O : Addr → Prop) (H : Hp) : List D → List V → Prop
  | nil : RepWL K O H [] []
  | cons {d : D} {v : V} {ds : List D} {vs : List V} : RepW K O H d v → RepWL K O H ds vs → RepWL K O H (d :: ds) (v :: vs)
section
variable {K : PySem.W.Frag} {O O' : Addr → Prop} {H H' : Hp}
theorem Rep.w : ∀ {d : D} {v : V}, Rep K O H d v → RepW K O H d v
  | .non, _, h => h
  | .bl _, _, h => h
  | .int _, _, h => h
  | .str _, _, h => h
  | .tup _, _, h => h
  | .lst _, _, h => by
    obtain ⟨a, vs, e, t, l⟩ := h
    exact ⟨a, vs, e, t.sq, l⟩
  | .dct _, _, h => h
  | .set _, _, h => h
theorem RepM.w {md : Md} {d : D} {v : V} {fp : List Addr} (h : RepM K O H md d v fp) : RepW K O H d v := by
  cases md with
  | dat => exact h.2.w
  | ol =>
    obtain ⟨a, vs, ds, rfl, rfl, rfl, e, l⟩ := h
    exact ⟨a, vs, rfl, SqL.of e, l⟩
end
section
variable {C : Cc} {σ : L2.St} {H H1 : Hp} {F F1 : Fp} {P : Addr → Prop} {ε ε1 : Sl} {α β : Type}
theorem RepE.slot (R : RepE C.K C.G H σ ε F P) {i : Nat} {d : D} {v : V} (e : ε[i]? = some (some d)) (hv : σ[i]? = some (some v)) : RepW C.K (Own F P) H d v := by
  obtain ⟨u, hu, r⟩ := R.val i d e
  rw [hv] at hu
  cases hu
  exact r.w
/-- the first of two: data -/
theorem gE_bd {m : M D} {f : D → M β} {Φ : Hp → Fp → Out β → Prop} (S : Stp C σ P Φ) (R : RepE C.K C.G H σ ε F P) (h : Φ H F (Cr.bd m f ε)) :
    tE C m σ H fun v H1 => ∃ d ε1 F1, RepE C.K C.G H1 σ ε1 F1 P ∧ Fr F H F1 H1 ∧ Rep C.K (Own F1 P) H1 d v ∧ Φ H1 F1 (f d ε1) :=
  ⟨ε, F, P, R, (S.bd h).imp fun d e H' F' R' y q v r => ⟨d, e, F', R', y, r, q⟩⟩
theorem gT_bd {m : M Bool} {f : Bool → M β} {Φ : Hp → Fp → Out β → Prop} (S : Stp C σ P Φ) (R : RepE C.K C.G H σ ε F P) (h : Φ H F (Cr.bd m f ε)) :
    tT C m σ H fun b H1 => ∃ ε1 F1, RepE C.K C.G H1 σ ε1 F1 P ∧ Fr F H F1 H1 ∧ Φ H1 F1 (f b ε1) :=
  ⟨ε, F, P, R, (S.bd h).imp fun b e H' F' R' y q => ⟨e, F', R', y, q⟩⟩
theorem tE_bd {m : M D} {f : D → M β} {Qf : β → Sl → Hp → Fp → Prop} (R : RepE C.K C.G H σ ε F P) (h : Okk C σ H F P (Cr.bd m f ε) Qf) :
    tE C m σ H fun v H1 => ∃ d ε1 F1, RepE C.K C.G H1 σ ε1 F1 P ∧ Fr F H F1 H1 ∧ Rep C.K (Own F1 P) H1 d v ∧ Okk C σ H1 F1 P (f d ε1) Qf := gE_bd Okk.stp R h
theorem tT_bd {m : M Bool} {f : Bool → M β} {Qf : β → Sl → Hp → Fp → Prop} (R : RepE C.K C.G H σ ε F P) (h : Okk C σ H F P (Cr.bd m f ε) Qf) :
    tT C m σ H fun b H1 => ∃ ε1 F1, RepE C.K C.G H1 σ ε1 F1 P ∧ Fr F H F1 H1 ∧ Okk C σ H1 F1 P (f b ε1) Qf := gT_bd Okk.stp R h
/-- an end: the value as it stands, the heap perhaps grown -/
theorem fin {o : Option D} {Q : VK} (R : RepE C.K C.G H σ ε F P) (h : Okk C σ H F P (Cr.opt o ε) fun d _ H' F' => ∀ v, Rep C.K (Own F' P) H' d v → Q v H') :
    ∃ d, o = some d ∧ ∀ v H', (∀ a u, H a = some u → H' a = some u) → Rep C.K (Own F P) H' d v → Q v H' := by
  obtain ⟨d, e, q⟩ := h.opt
  exact ⟨d, e, fun v H' x r => q H' F (R.grow x) (Fr.ext x) v r⟩
/-- both operands -/
theorem two {g : D → D → Option D} {oa ob : Opd} {Q : VK} (h : tE C (bin g oa ob) σ H Q) :
    tO C oa σ H fun x H1 => tO C ob σ H1 fun y H2 => ∃ (O : Addr → Prop) (d1 d2 d : D), (∀ a, O a → H2 a ≠ none) ∧ RepW C.K O H2 d1 x ∧ RepW C.K O H2 d2 y ∧ g d1 d2 = some d ∧
      ∀ v H', (∀ a u, H2 a = some u → H' a = some u) → Rep C.K O H' d v → Q v H' := by
  obtain ⟨ε, F, P, R, h⟩ := h
  cases oa with
  | d ma =>
    cases ob with
    | d mb =>
      obtain ⟨ε0, F0, P0, R0, h0⟩ := tE_bd R h
      refine ⟨ε0, F0, P0, R0, h0.imp fun d1 e1 H1 F1 R1 y1 q v r => ?_⟩
      obtain ⟨d1', ε1, F1', R1', y1', r1, h1⟩ := q v r
      obtain ⟨ε2, F2, P2, R2, h2⟩ := tE_bd R1' h1
      refine ⟨ε2, F2, P2, R2, h2.imp fun d2 e2 H2 F2 R2 y2 q v r => ?_⟩
      obtain ⟨d2', ε2', F2', R2', y2', r2, h2'⟩ := q v r
      obtain ⟨d, ed, q'⟩ := fin R2' h2'
      exact ⟨Own F2' P, d1', d2', d, R2'.dom, (y2'.rep r1).w, r2.w, ed, q'⟩
    | o j =>
      obtain ⟨ε0, F0, P0, R0, h0⟩ := tE_bd R h
      refine ⟨ε0, F0, P0, R0, h0.imp fun d1 e1 H1 F1 R1 y1 q v r => ?_⟩
      obtain ⟨d1', ε1, F1', R1', y1', r1, h1⟩ := q v r
      obtain ⟨d2, e2, h2⟩ := h1.bd.rd
      obtain ⟨v2, hv2, r2⟩ := R1'.val j d2 e2
      obtain ⟨d, ed, q'⟩ := fin R1' (h2 _ _ R1' Fr.refl)
      exact ⟨v2, hv2, Own F1' P, d1', d2, d, R1'.dom, r1.w, r2.w, ed, q'⟩
  | o i =>
    cases ob with
    | d mb =>
      obtain ⟨d0, e0, h0⟩ := h.bd.rd
      obtain ⟨v0, hv0, r0⟩ := R.val i d0 e0
      refine ⟨v0, hv0, ?_⟩
      obtain ⟨ε2, F2, P2, R2, h2⟩ := tE_bd R (h0 _ _ R Fr.refl)
      refine ⟨ε2, F2, P2, R2, h2.imp fun d2 e2 H2 F2 R2 y2 q v r => ?_⟩
      obtain ⟨d2', ε2', F2', R2', y2', r2, h2'⟩ := q v r
      obtain ⟨d1, e1, h3⟩ := h2'.bd.rd
      obtain ⟨d, ed, q'⟩ := fin R2' (h3 _ _ R2' Fr.refl)
      exact ⟨Own F2' P, d1, d2', d, R2'.dom, R2'.slot e1 hv0, r2.w, ed, q'⟩
    | o j =>
      obtain ⟨d1, e1, h1⟩ := h.bd.rd
      obtain ⟨v1, hv1, r1⟩ := R.val i d1 e1
      obtain ⟨d2, e2, h2⟩ := (h1 _ _ R Fr.refl).bd.rd
      obtain ⟨v2, hv2, r2⟩ := R.val j d2 e2
      obtain ⟨d, ed, q'⟩ := fin R (h2 _ _ R Fr.refl)
      exact ⟨v1, hv1, v2, hv2, Own F P, d1, d2, d, R.dom, r1.w, r2.w, ed, q'⟩
theorem one {g : D → Option D} {oa : Opd} {Q : VK} (h : tE C (un g oa) σ H Q) :
    tO C oa σ H fun x H1 => ∃ (O : Addr → Prop) (d1 d : D), (∀ a, O a → H1 a ≠ none) ∧ RepW C.K O H1 d1 x ∧ g d1 = some d ∧ ∀ v H', (∀ a u, H1 a = some u → H' a = some u) → Rep C.K O H' d v → Q v H' := by
  obtain ⟨ε, F, P, R, h⟩ := h
  cases oa with
  | d ma =>
    obtain ⟨ε0, F0, P0, R0, h0⟩ := tE_bd R h
    refine ⟨ε0, F0, P0, R0, h0.imp fun d1 e1 H1 F1 R1 y1 q v r => ?_⟩
    obtain ⟨d1', ε1, F1', R1', y1', r1, h1⟩ := q v r
    obtain ⟨d, ed, q'⟩ := fin R1' h1
    exact ⟨Own F1' P, d1', d, R1'.dom, r1.w, ed, q'⟩
  | o i =>
    obtain ⟨d1, e1, h1⟩ := h.bd.rd
    obtain ⟨v1, hv1, r1⟩ := R.val i d1 e1
    obtain ⟨d, ed, q'⟩ := fin R (h1 _ _ R Fr.refl)
    exact ⟨v1, hv1, Own F P, d1, d, R.dom, r1.w, ed, q'⟩
end
/-! ### operators: what they do to data -/
/-- the operation r does on values what g does on data -/
def OpS (K : PySem.W.Frag) (r : R2) (g : D → D → Option D) : Prop := ∀ (O : Addr → Prop) (H : Hp) (x y : V) (d1 d2 d : D) (Q : VK), (∀ a, O a → H a ≠ none) → RepW K O H d1 x → RepW K O H d2 y → g d1 d2 = some d →
  (∀ v H', (∀ a u, H a = some u → H' a = some u) → Rep K O H' d v → Q v H') → r x y H Q
def UnS (K : PySem.W.Frag) (r : V → Hp → VK → Prop) (g : D → Option D) : Prop := ∀ (O : Addr → Prop) (H : Hp) (x : V) (d1 d : D) (Q : VK), (∀ a, O a → H a ≠ none) → RepW K O H d1 x → g d1 = some d →
  (∀ v H', (∀ a u, H a = some u → H' a = some u) → Rep K O H' d v → Q v H') → r x H Q
section
variable {X : Cx} {C : Cc} {a b c : Expr} {pos : Pos} {r r' : R2} {g g' : D → D → Option D} {oa ob : Opd} {m ma mb mc : M D} {ta tb tc : M Bool} {σ : L2.St} {H : Hp}
theorem tE.imp {Q Q' : VK} (h : tE C m σ H Q) (i : ∀ v H', Q v H' → Q' v H') : tE C m σ H Q' := by
  obtain ⟨ε, F, P, R, h⟩ := h
  exact ⟨ε, F, P, R, h.imp fun d e H' F' R' y q v r => i v H' (q v r)⟩
theorem tO.imp {Q Q' : VK} (h : tO C oa σ H Q) (i : ∀ v H', Q v H' → Q' v H') : tO C oa σ H Q' := by
  cases oa with
  | d m => exact tE.imp h i
  | o j =>
    obtain ⟨v, e, q⟩ := h
    exact ⟨v, e, i v H q⟩
theorem op_run (hs : OpS C.K r g) {Q : VK} (h : tE C (bin g oa ob) σ H Q) : tOp r (tO C oa) (tO C ob) σ H Q :=
  tO.imp (two h) fun x H1 q => tO.imp q fun y H2 ⟨O, d1, d2, d, dm, r1, r2, e, q⟩ => hs O H2 x y d1 d2 d Q dm r1 r2 e q
theorem re_bin {op : Operator} (ho : OpR X (binaryOp op) r) (hs : OpS C.K r g) (ha : PE X a (tO C oa)) (hb : PE X b (tO C ob)) : PE X (.BinOp a op b pos) (tE C (bin g oa ob)) :=
  PE.mono (pe_op ho ha hb) fun σ H Q h => op_run hs h
theorem re_cmp {op : CmpOp} (ho : OpR X (compareOp op) r) (hs : OpS C.K r g) (ha : PE X a (tO C oa)) (hb : PE X b (tO C ob)) (hm : behindInMarks op b = false) : PE X (.Compare a [op] [b] pos) (tE C (bin g oa ob)) :=
  PE.mono (pe_cmpR ho ha hb hm) fun σ H Q h => op_run hs h
theorem re_ix (ho : IxR X r) (hs : OpS C.K r g) (ha : PE X a (tO C oa)) (hb : PE X b (tO C ob)) (hp : PlainIx b) : PE X (.Subscript a b pos) (tE C (bin g oa ob)) :=
  PE.mono (pe_ix ho ha hb hp) fun σ H Q h => op_run hs h
theorem re_un {op : UnaryOp} {r : V → Hp → VK → Prop} {g : D → Option D} (ho : UnR X (unaryOp op) r) (hs : UnS C.K r g) (ha : PE X a (tO C oa)) : PE X (.UnaryOp op a pos) (tE C (un g oa)) :=
  PE.mono (pe_un ho ha) fun σ H Q h => tO.imp (one h) fun x H1 ⟨O, d1, d, dm, r1, e, q⟩ => hs O H1 x d1 d Q dm r1 e q
/-- a test of a value that is a truth value -/
theorem test_run {R : V → Hp → Prop} {Q : Bool → Hp → Prop} (h : tT C (tstB m) σ H Q) : tE C m σ H fun v H1 => ∃ k, v = .bl k ∧ Q k H1 := by
  obtain ⟨ε, F, P, R, h⟩ := h
  refine tE.imp (tE_bd R h) fun v H1 ⟨d, ε1, F1, R1, y1, r1, h1⟩ => ?_
  cases d with
  | bl k => exact ⟨k, r1, Okk.here h1 R1⟩
  | _ => exact h1.elim
theorem rt_cmp {op : CmpOp} (ho : OpR X (compareOp op) r) (hs : OpS C.K r g) (ha : PE X a (tO C oa)) (hb : PE X b (tO C ob)) (hm : behindInMarks op b = false) : PT X (.Compare a [op] [b] pos) (tT C (tstB (bin g oa ob))) :=
  PT.mono (pt_cmpR ho ha hb hm) fun σ H Q h => op_run hs (test_run (R := fun _ _ => True) h)
theorem rt_val {e : Expr} (h : PE X e (tE C m)) (he : ∀ whole, isTrue e X.env whole = (do let v ← whole; standAt e.pos; holding [v] (truthy v)) := by intro _; rfl) : PT X e (tT C (tstB m)) :=
  PT.mono (pt_val h he) fun σ H Q h => test_run (R := fun _ _ => True) h
theorem tT.imp {t : M Bool} {Q Q' : Bool → Hp → Prop} (h : tT C t σ H Q) (i : ∀ v H', Q v H' → Q' v H') : tT C t σ H Q' := by
  obtain ⟨ε, F, P, R, h⟩ := h
  exact ⟨ε, F, P, R, h.imp fun d e H' F' R' y q => i d H' q⟩
theorem rw_and1 (ha : PT X a (tT C ta)) : PW X (.BoolOp .And [a] pos) (tT C ta) := pw_and1 ha
theorem rw_or1 (ha : PT X a (tT C ta)) : PW X (.BoolOp .Or [a] pos) (tT C ta) := pw_or1 ha
theorem rw_and {rest : List Expr} (ha : PT X a (tT C ta)) (hb : PW X (.BoolOp .And (b :: rest) pos) (tT C tb)) : PW X (.BoolOp .And (a :: b :: rest) pos) (tT C (andT ta tb)) :=
  PW.mono (pw_and ha hb) fun σ H Q ⟨ε, F, P, R, h⟩ => tT.imp (tT_bd R h) fun k H1 ⟨ε1, F1, R1, y1, h1⟩ => by
    cases k with
    | true => exact iteT ⟨ε1, F1, P, R1, h1⟩
    | false => exact iteF (Okk.here h1 R1)
theorem rw_or {rest : List Expr} (ha : PT X a (tT C ta)) (hb : PW X (.BoolOp .Or (b :: rest) pos) (tT C tb)) : PW X (.BoolOp .Or (a :: b :: rest) pos) (tT C (orT ta tb)) :=
  PW.mono (pw_or ha hb) fun σ H Q ⟨ε, F, P, R, h⟩ => tT.imp (tT_bd R h) fun k H1 ⟨ε1, F1, R1, y1, h1⟩ => by
    cases k with
    | false => exact iteF ⟨ε1, F1, P, R1, h1⟩
    | true => exact iteT (Okk.here h1 R1)
theorem rt_not (ha : PT X a (tT C ta)) : PT X (.UnaryOp .Not a pos) (tT C (notT ta)) :=
  PT.mono (pt_not ha) fun σ H Q ⟨ε, F, P, R, h⟩ => tT.imp (tT_bd R h) fun k H1 ⟨ε1, F1, R1, y1, h1⟩ => Okk.here h1 R1
/-- and, or, not as values -/
theorem toB_run {β : Type} {d : D} {v : V} {f : Bool → M β} {F : Fp} {P : Addr → Prop} {ε : Sl} {Q : β → Sl → Hp → Fp → Prop} (R : RepE C.K C.G H σ ε F P) (r : Rep C.K (Own F P) H d v) (h : Okk C σ H F P (bd (toB d) f ε) Q) :
    ∃ k, v = .bl k ∧ Okk C σ H F P (f k ε) Q := by
  cases d with
  | bl k => exact ⟨k, r, h⟩
  | _ => exact h.elim
theorem re_and {rest : List Expr} (ha : PE X a (tE C ma)) (hb : PE X (.BoolOp .And (b :: rest) pos) (tE C mb)) : PE X (.BoolOp .And (a :: b :: rest) pos) (tE C (andV ma mb)) :=
  PE.mono (pe_and ha hb) fun σ H Q ⟨ε, F, P, R, h⟩ => tE.imp (tE_bd R h) fun v H1 ⟨d, ε1, F1, R1, y1, r1, h1⟩ => by
    obtain ⟨k, e, h2⟩ := toB_run R1 r1 h1
    refine ⟨k, e, ?_⟩
    cases k with
    | true => exact iteT ⟨ε1, F1, P, R1, h2⟩
    | false => exact iteF (Okk.here h2 R1 _ rfl)
theorem re_or {rest : List Expr} (ha : PE X a (tE C ma)) (hb : PE X (.BoolOp .Or (b :: rest) pos) (tE C mb)) : PE X (.BoolOp .Or (a :: b :: rest) pos) (tE C (orV ma mb)) :=
  PE.mono (pe_or ha hb) fun σ H Q ⟨ε, F, P, R, h⟩ => tE.imp (tE_bd R h) fun v H1 ⟨d, ε1, F1, R1, y1, r1, h1⟩ => by
    obtain ⟨k, e, h2⟩ := toB_run R1 r1 h1
    refine ⟨k, e, ?_⟩
    cases k with
    | false => exact iteF ⟨ε1, F1, P, R1, h2⟩
    | true => exact iteT (Okk.here h2 R1 _ rfl)
theorem re_not (ha : PE X a (tE C ma)) : PE X (.UnaryOp .Not a pos) (tE C (notV ma)) :=
  PE.mono (pe_not ha) fun σ H Q ⟨ε, F, P, R, h⟩ => tE.imp (tE_bd R h) fun v H1 ⟨d, ε1, F1, R1, y1, r1, h1⟩ => by
    obtain ⟨k, e, h2⟩ := toB_run R1 r1 h1
    exact ⟨k, e, Okk.here h2 R1 _ rfl⟩
theorem re_if {t : Expr} (ht : PT X t (tT C ta)) (ha : PE X a (tE C ma)) (hb : PE X b (tE C mb)) : PE X (.IfExp t a b pos) (tE C (ifE ta ma mb)) :=
  PE.mono (pe_ifExp ht ha hb) fun σ H Q ⟨ε, F, P, R, h⟩ => tT.imp (tT_bd R h) fun k H1 ⟨ε1, F1, R1, y1, h1⟩ => by
    cases k with
    | true => exact iteT ⟨ε1, F1, P, R1, h1⟩
    | false => exact iteF ⟨ε1, F1, P, R1, h1⟩
/-- names, constants -/
theorem re_var {i : Nat} {x : Str} {pos : Pos} (hG : C.G i = .dat) (h : PE X (.Name x pos) (tVar i)) : PE X (.Name x pos) (tE C (rd i)) :=
  PE.mono h fun σ H Q ⟨ε, F, P, R, h⟩ => by
    obtain ⟨d, e, q⟩ := h.rd
    obtain ⟨v, hv, r⟩ := R.dat e hG
    exact ⟨v, hv, q H F R Fr.refl v r⟩
theorem re_cst {e : Expr} {d : D} {v : V} (h : PE X e (tC v)) (hr : ∀ O H, Rep C.K O H d v) : PE X e (tE C (cst d)) :=
  PE.mono h fun σ H Q ⟨ε, F, P, R, h⟩ => Okk.here h R v (hr _ _)
theorem re_int {i : Int} {j pos} : PE X (.Constant (.int i) j pos) (tE C (cst (.int i))) := re_cst pe_int fun _ _ => rfl
theorem re_bl {b : Bool} {j pos} : PE X (.Constant (.bool b) j pos) (tE C (cst (.bl b))) := re_cst pe_bl fun _ _ => rfl
theorem re_non {j pos} : PE X (.Constant .none j pos) (tE C (cst .non)) := re_cst pe_non fun _ _ => rfl
theorem re_str {s : Str} {j pos} : PE X (.Constant (.str s) j pos) (tE C (cst (.str s))) := re_cst pe_str fun _ _ => rfl
end
end Lk

end
section
set_option maxRecDepth 100000
set_option maxHeartbeats 4000000
/-! Lk3: rows of operands, displays, calls. -/
namespace Lk
open PySem PySem.Spec PyProof.Rows L2 Cr
theorem bd_assoc {α β γ : Type} (m : M α) (f : α → M β) (g : β → M γ) : bd (bd m f) g = bd m fun x => bd (f x) g := by
  funext e
  simp only [bd]
  cases m e <;> rfl
theorem bd_ret {α β : Type} (a : α) (f : α → M β) : bd (pu a) f = f a := rfl
theorem ret_bd {α : Type} (m : M α) : bd m pu = m := by
  funext e
  simp only [bd]
  cases m e <;> rfl
/-- behind the first phase: data with its values, a slot with its own -/
inductive Al (K : PySem.W.Frag) (σ : L2.St) (H : Hp) (O : Addr → Prop) : List Opd → List D → List V → Prop
  | nil : Al K σ H O [] [] []
  | d {m : M D} {r : List Opd} {x : D} {xs : List D} {v : V} {vs : List V} : Rep K O H x v → Al K σ H O r xs vs → Al K σ H O (.d m :: r) (x :: xs) (v :: vs)
  | o {i : Nat} {r : List Opd} {xs : List D} {v : V} {vs : List V} : σ[i]? = some (some v) → Al K σ H O r xs vs → Al K σ H O (.o i :: r) xs (v :: vs)
/-- behind the second -/
inductive Ar (K : PySem.W.Frag) (σ : L2.St) (ε : Sl) (H : Hp) (O : Addr → Prop) : List Opd → List D → List V → Prop
  | nil : Ar K σ ε H O [] [] []
  | d {m : M D} {r : List Opd} {x : D} {xs : List D} {v : V} {vs : List V} : Rep K O H x v → Ar K σ ε H O r xs vs → Ar K σ ε H O (.d m :: r) (x :: xs) (v :: vs)
  | o {i : Nat} {r : List Opd} {x : D} {xs : List D} {v : V} {vs : List V} : σ[i]? = some (some v) → ε[i]? = some (some x) → Ar K σ ε H O r xs vs → Ar K σ ε H O (.o i :: r) (x :: xs) (v :: vs)
section
variable {C : Cc} {σ : L2.St} {H H1 : Hp} {F F1 : Fp} {P : Addr → Prop} {ε ε1 : Sl} {α β : Type}
theorem tAs.imp : ∀ (as : List Opd) {H : Hp} {Q Q' : List V → Hp → Prop}, tAs C as σ H Q → (∀ vs H', Q vs H' → Q' vs H') → tAs C as σ H Q' := by
  intro as
  induction as with
  | nil => exact fun h i => i _ _ h
  | cons o r ih => exact fun h i => tO.imp h fun v H' q => ih q fun vs H'' q => i _ _ q
theorem ph1_run : ∀ (as : List Opd) {β : Type} {f : List D → M β} {Φ : Hp → Fp → Out β → Prop} {H : Hp} {F : Fp} {ε : Sl}, Stp C σ P Φ → RepE C.K C.G H σ ε F P → Φ H F (bd (ph1 as) f ε) →
    tAs C as σ H fun vs H1 => ∃ xs ε1 F1, RepE C.K C.G H1 σ ε1 F1 P ∧ Fr F H F1 H1 ∧ Al C.K σ H1 (Own F1 P) as xs vs ∧ Φ H1 F1 (f xs ε1)
  | [], _, f, Φ, H, F, ε, S, R, h => ⟨[], ε, F, R, Fr.refl, .nil, h⟩
  | .d m :: r, _, f, Φ, H, F, ε, S, R, h => by
    unfold ph1 at h
    rw [bd_assoc] at h
    refine tE.imp (gE_bd S R h) fun v H1 ⟨d, ε1, F1, R1, y1, r1, h1⟩ => ?_
    rw [bd_assoc] at h1
    refine tAs.imp r (ph1_run r S R1 h1) fun vs H2 ⟨xs, ε2, F2, R2, y2, a2, h2⟩ => ?_
    exact ⟨d :: xs, ε2, F2, R2, y1.trans y2, .d (y2.rep r1) a2, h2⟩
  | .o i :: r, _, f, Φ, H, F, ε, S, R, h => by
    unfold ph1 at h
    rw [bd_assoc] at h
    obtain ⟨d, e, h1⟩ := (S.bd h).rd
    obtain ⟨v, hv, _⟩ := R.val i d e
    refine ⟨v, hv, tAs.imp r (ph1_run r S R (h1 _ _ R Fr.refl)) fun vs H2 ⟨xs, ε2, F2, R2, y2, a2, h2⟩ => ?_⟩
    exact ⟨xs, ε2, F2, R2, y2, .o hv a2, h2⟩
theorem ph2_run : ∀ (as : List Opd) {xs : List D} {vs : List V} {β : Type} {f : List D → M β} {Φ : Hp → Fp → Out β → Prop}, Stp C σ P Φ → RepE C.K C.G H σ ε F P → Al C.K σ H (Own F P) as xs vs → Φ H F (bd (ph2 as xs) f ε) →
    ∃ ds, Ar C.K σ ε H (Own F P) as ds vs ∧ Φ H F (f ds ε)
  | [], _, _, _, f, Φ, S, R, A, h => by
    cases A
    exact ⟨[], .nil, h⟩
  | .d m :: r, _, _, _, f, Φ, S, R, A, h => by
    cases A with
    | d r1 A =>
      unfold ph2 at h
      rw [bd_assoc] at h
      obtain ⟨ds, B, q⟩ := ph2_run r S R A h
      exact ⟨_ :: ds, .d r1 B, q⟩
  | .o i :: r, _, _, _, f, Φ, S, R, A, h => by
    cases A with
    | o hv A =>
      unfold ph2 at h
      rw [bd_assoc] at h
      obtain ⟨d, e, h1⟩ := (S.bd h).rd
      have h2 := h1 _ _ R Fr.refl
      rw [bd_assoc] at h2
      obtain ⟨ds, B, q⟩ := ph2_run r S R A h2
      exact ⟨d :: ds, .o hv e B, q⟩
/-- a row of operands -/
theorem gopds {as : List Opd} {f : List D → M β} {Φ : Hp → Fp → Out β → Prop} (S : Stp C σ P Φ) (R : RepE C.K C.G H σ ε F P) (h : Φ H F (bd (opds as) f ε)) :
    tAs C as σ H fun vs H1 => ∃ ds ε1 F1, RepE C.K C.G H1 σ ε1 F1 P ∧ Fr F H F1 H1 ∧ Ar C.K σ ε1 H1 (Own F1 P) as ds vs ∧ Φ H1 F1 (f ds ε1) := by
  unfold opds at h
  rw [bd_assoc] at h
  refine tAs.imp as (ph1_run as S R h) fun vs H1 ⟨xs, ε1, F1, R1, y1, A, h1⟩ => ?_
  obtain ⟨ds, B, q⟩ := ph2_run as S R1 A h1
  exact ⟨ds, ε1, F1, R1, y1, B, q⟩
theorem opds_run {as : List Opd} {f : List D → M β} {Qf : β → Sl → Hp → Fp → Prop} (R : RepE C.K C.G H σ ε F P) (h : Okk C σ H F P (bd (opds as) f ε) Qf) :
    tAs C as σ H fun vs H1 => ∃ ds ε1 F1, RepE C.K C.G H1 σ ε1 F1 P ∧ Fr F H F1 H1 ∧ Ar C.K σ ε1 H1 (Own F1 P) as ds vs ∧ Okk C σ H1 F1 P (f ds ε1) Qf := gopds Okk.stp R h
theorem Ar.wl {as : List Opd} {ds : List D} {vs : List V} (R : RepE C.K C.G H σ ε F P) (A : Ar C.K σ ε H (Own F P) as ds vs) : RepWL C.K (Own F P) H ds vs := by
  induction A with
  | nil => exact .nil
  | d r _ ih => exact .cons r.w ih
  | o hv e _ ih => exact .cons (R.slot e hv) ih
theorem seq_ph1 : ∀ ms : List (M D), seqE ms = ph1 (ms.map Opd.d)
  | [] => rfl
  | m :: ms => by
    show (bd m fun x => bd (seqE ms) fun xs => pu (x :: xs)) = bd m fun x => bd (ph1 (ms.map Opd.d)) fun xs => pu (x :: xs)
    rw [seq_ph1 ms]
theorem Al.list : ∀ {ms : List (M D)} {ds : List D} {vs : List V} {O : Addr → Prop}, Al C.K σ H O (ms.map Opd.d) ds vs → RepL C.K O H ds vs ∧ vs.length = ms.length
  | [], _, _, _, A => by cases A; exact ⟨rfl, rfl⟩
  | m :: ms, _, _, _, A => by
    cases A with
    | d r A =>
      obtain ⟨l, n⟩ := Al.list A
      exact ⟨⟨_, _, rfl, r, l⟩, by simp [n]⟩
theorem rep_tup {K : PySem.W.Frag} {O : Addr → Prop} {ds : List D} {vs : List V} {p : Addr} (dm : ∀ a, O a → H a ≠ none) (l : RepL K O H ds vs) (hp : H p = none) : Rep K O (upd H p (.tup vs)) (.tup ds) (.ref p) :=
  ⟨p, vs, rfl, .inl ⟨fun z => dm p z hp, .inl upd_same⟩, RepL.move (fun a o e _ => same_upd hp a o e) (fun a z => .inl z) _ _ l⟩
theorem rep_lst {K : PySem.W.Frag} {O : Addr → Prop} {ds : List D} {vs : List V} {p : Addr} (dm : ∀ a, O a → H a ≠ none) (l : RepL K O H ds vs) (hp : H p = none) : Rep K O (upd H p (.lst vs)) (.lst ds) (.ref p) :=
  ⟨p, vs, rfl, .inl ⟨fun z => dm p z hp, .inl upd_same⟩, RepL.move (fun a o e _ => same_upd hp a o e) (fun a z => .inl z) _ _ l⟩
theorem RepE.weakP {P' : Addr → Prop} (R : RepE C.K C.G H σ ε F P') (w : ∀ a, P a → P' a) : RepE C.K C.G H σ ε F P := by
  have g : ∀ a, Own F P a → Own F P' a := fun a z => z.elim (fun z => .inl (w a z)) .inr
  refine ⟨R.len, fun i d e => ?_, R.non, R.sep, fun i a h z => R.out i a h (w a z), fun a z => R.dom a (g a z)⟩
  obtain ⟨v, hv, r⟩ := R.val i d e
  exact ⟨v, hv, r.move Keeps.rfl' (fun a z => .inl (g a z)) fun _ _ _ h => h⟩
/-- a new list, as what is owned -/
theorem new_ol {ds : List D} {vs : List V} {p : Addr} (R : RepE C.K C.G H σ ε F P) (l : RepL C.K (Own F P) H ds vs) (hp : H p = none) :
    RepE C.K C.G (upd H p (.lst vs)) σ ε F (fun a => P a ∨ a ∈ [p]) ∧ RepM C.K (Own F (fun a => P a ∨ a ∈ [p])) (upd H p (.lst vs)) .ol (.lst ds) (.ref p) [p] := by
  refine ⟨R.ext (same_upd hp) fun a z => z.elim .inl fun z => .inr ?_, p, vs, ds, rfl, rfl, rfl, upd_same, RepL.move (fun a o e _ => same_upd hp a o e) (fun a z => ?_) _ _ l⟩
  · rw [List.mem_singleton.mp z]
    exact ⟨hp, by rw [upd_same]; intro z; cases z⟩
  · rcases z with (z | z) | z
    · exact .inl (.inl z)
    · exact .inr (by rw [List.mem_singleton.mp z]; exact hp)
    · exact .inl (.inr z)
theorem RepM.toDat {md : Md} {d : D} {v : V} {fp : List Addr} {H' : Hp} (r : RepM C.K (Own F (fun a => P a ∨ a ∈ fp)) H' md d v fp) (n : ∀ a ∈ fp, ¬ Own F P a) : Rep C.K (Own F P) H' d v := by
  cases md with
  | dat => exact r.2.weak fun a z => z.elim (fun z => .inl (.inl z)) .inr
  | ol =>
    obtain ⟨a, vs, ds, rfl, rfl, rfl, e, l⟩ := r
    exact ⟨a, vs, rfl, .inl ⟨n a (List.mem_singleton.mpr rfl), .inl e⟩, l.weak fun a z => z.elim (fun z => .inl (.inl z)) .inr⟩
theorem fe_run {md : Md} {m : M D} {Q : VK} (h : tE C m σ H Q) : tF C md m σ H Q := by
  obtain ⟨ε, F, P, R, h⟩ := h
  refine ⟨ε, F, P, R, ?_⟩
  cases e : m ε with
  | ok d ε' =>
    rw [e] at h
    intro v H' F' fp R' y n r
    refine h H' F' (R'.weakP fun a z => .inl z) y v (r.toDat fun a ha z => ?_)
    rcases z with z | ⟨i, z⟩
    · exact R.dom a (.inl z) (n a ha)
    · exact R'.out i a z (.inr ha)
  | exn c ε' => rw [e] at h; exact h
  | bad => rw [e] at h; exact h
/-- a fresh list ends an expression -/
theorem finF {d : D} {Q : VK} (R : RepE C.K C.G H σ ε F P) (h : OkF C .ol σ Q P H F (.ok d ε)) {ds : List D} {vs : List V} {p : Addr} (ed : d = .lst ds) (l : RepL C.K (Own F P) H ds vs) (hp : H p = none) : Q (.ref p) (upd H p (.lst vs)) := by
  subst ed
  obtain ⟨a, b⟩ := new_ol R l hp
  exact h _ _ _ [p] a (Fr.ext (same_upd hp)) (fun a ha => by rw [List.mem_singleton.mp ha]; exact hp) b
theorem OkF.opt {md : Md} {o : Option D} {Q : VK} (h : OkF C md σ Q P H F (Cr.opt o ε)) : ∃ d, o = some d ∧ OkF C md σ Q P H F (.ok d ε) := by
  cases o with
  | none => exact h.elim
  | some a => exact ⟨a, rfl, h⟩
end
section
variable {X : Cx} {C : Cc} {e : Expr} {es : List Expr} {pos : Pos} {m : M D} {ms : List (M D)} {as : List Opd} {md : Md}
theorem re_fe (h : PE X e (tF C md m)) : PE X e (tE C m) := PE.mono h fun σ H Q h => fe_run h
theorem ra_nil : PA X [] (tAs C []) := pa_nil
theorem ra_cons {o : Opd} (ha : PE X e (tO C o)) (hr : PA X es (tAs C as)) (hs : starEach (e :: es) X.env = (false, eval e X.env) :: starEach es X.env := by rfl) : PA X (e :: es) (tAs C (o :: as)) := pa_cons ha hr hs
theorem seq_run {σ : L2.St} {H : Hp} {F : Fp} {P : Addr → Prop} {ε : Sl} {β : Type} {f : List D → M β} {Φ : Hp → Fp → Out β → Prop} (S : Stp C σ P Φ) (R : RepE C.K C.G H σ ε F P) (h : Φ H F (bd (seqE ms) f ε)) :
    tAs C (ms.map Opd.d) σ H fun vs H1 => ∃ ds ε1 F1, RepE C.K C.G H1 σ ε1 F1 P ∧ Fr F H F1 H1 ∧ RepL C.K (Own F1 P) H1 ds vs ∧ vs.length = ms.length ∧ Φ H1 F1 (f ds ε1) := by
  rw [seq_ph1] at h
  refine tAs.imp _ (ph1_run _ S R h) fun vs H1 ⟨xs, ε1, F1, R1, y1, A, h1⟩ => ?_
  obtain ⟨l, n⟩ := A.list
  exact ⟨xs, ε1, F1, R1, y1, l, n, h1⟩
theorem re_tup {x1} (h : PA X es (tAs C (ms.map Opd.d))) (hl : ms.length ≤ 1000 := by decide) : PE X (.Tuple es x1 pos) (tE C (tupE ms)) :=
  PE.mono (pe_tup h) fun σ H Q ⟨ε, F, P, R, h⟩ => tAs.imp _ (seq_run Okk.stp R h) fun vs H1 ⟨ds, ε1, F1, R1, y1, l, n, h1⟩ =>
    ⟨Nat.le_of_lt (small1000 (by omega)), fun p hp => h1 _ _ (R1.grow (same_upd hp)) (Fr.ext (same_upd hp)) _ (rep_tup R1.dom l hp)⟩
theorem rf_lst (h : PA X es (tAs C (ms.map Opd.d))) (hl : ms.length ≤ 1000 := by decide) : PE X (.List es pos) (tF C .ol (lstE ms)) :=
  PE.mono (pe_lst h) fun σ H Q ⟨ε, F, P, R, h⟩ => tAs.imp _ (seq_run OkF.stp R h) fun vs H1 ⟨ds, ε1, F1, R1, y1, l, n, h1⟩ =>
    ⟨Nat.le_of_lt (small1000 (by omega)), fun p hp => finF R1 h1 rfl l hp⟩
/-! ### built-ins by values -/
def CallS (K : PySem.W.Frag) (r : List V → Hp → VK → Prop) (g : List D → Option D) : Prop := ∀ (O : Addr → Prop) (H : Hp) (vs : List V) (ds : List D) (d : D) (Q : VK), (∀ a, O a → H a ≠ none) → RepWL K O H ds vs → g ds = some d →
  (∀ v H', (∀ a u, H a = some u → H' a = some u) → Rep K O H' d v → Q v H') → r vs H Q
/-- .. that make a new list -/
def CallN (K : PySem.W.Frag) (r : List V → Hp → VK → Prop) (g : List D → Option D) : Prop := ∀ (O : Addr → Prop) (H : Hp) (vs : List V) (ds : List D) (d : D) (Q : VK), (∀ a, O a → H a ≠ none) → RepWL K O H ds vs → g ds = some d →
  (∀ p xs ws, d = .lst xs → H p = none → RepL K O H xs ws → Q (.ref p) (upd H p (.lst ws))) → r vs H Q
theorem callB_run {r : List V → Hp → VK → Prop} {g : List D → Option D} (hs : CallS C.K r g) {σ : L2.St} {H : Hp} {Q : VK} (h : tE C (callB g as) σ H Q) : tCB r (tAs C as) σ H Q := by
  obtain ⟨ε, F, P, R, h⟩ := h
  refine tAs.imp _ (opds_run R h) fun vs H1 ⟨ds, ε1, F1, R1, y1, A, h1⟩ => ?_
  obtain ⟨d, e, q⟩ := fin R1 h1
  exact hs _ _ _ _ _ _ R1.dom (A.wl R1) e q
theorem callN_run {r : List V → Hp → VK → Prop} {g : List D → Option D} (hs : CallN C.K r g) {σ : L2.St} {H : Hp} {Q : VK} (h : tF C .ol (callB g as) σ H Q) : tCB r (tAs C as) σ H Q := by
  obtain ⟨ε, F, P, R, h⟩ := h
  refine tAs.imp _ (gopds OkF.stp R h) fun vs H1 ⟨ds, ε1, F1, R1, y1, A, h1⟩ => ?_
  obtain ⟨d, e, q⟩ := OkF.opt h1
  exact hs _ _ _ _ _ _ R1.dom (A.wl R1) e fun p xs ws ed hp l => finF R1 q ed l hp
end
end Lk

end
section
set_option maxRecDepth 100000
set_option maxHeartbeats 4000000
/-! Lk4: calls of defs. -/
namespace Lk
open PySem PySem.Spec PyProof.Rows L2 Cr
/-- a def's modes -/
def gm (pm : List Md) : Nat → Md := fun i => pm[i]?.getD .dat
/-- a def's promise: what the plain function says -/
def spF (K : PySem.W.Frag) (pm : List Md) (rm : Md) (cl : Nat → Addr) (f : Fn) : Sp := fun vs H Q E => ∃ (ds : List D) (F : Fp) (P : Addr → Prop), RepE K (gm pm) H (vs.map some) (ds.map some) F P ∧ vs.length = pm.length ∧
  match f ds with
  | .ok d ds' => ∀ v H' F' fp, RepE K (gm pm) H' (vs.map some) (ds'.map some) F' (fun a => P a ∨ a ∈ fp) → Fr F H F' H' → (∀ a ∈ fp, H a = none) → RepM K (Own F' (fun a => P a ∨ a ∈ fp)) H' rm d v fp → Q v H'
  | .exn c => (∀ i, F i = []) ∧ ∀ H', (∀ a o, H a = some o → H' a = some o) → E (.ref (cl c)) none H'
  | .bad => False
theorem spF_len {K : PySem.W.Frag} {pm : List Md} {rm : Md} {cl : Nat → Addr} {f : Fn} {vs : List V} {H : Hp} {Q : VK} {E : XK} (h : spF K pm rm cl f vs H Q E) : vs.length = pm.length := by
  obtain ⟨_, _, _, _, e, _⟩ := h
  exact e
/-- the operands fit the parameters: data to data, what a slot owns to an own parameter; no slot twice -/
def fits (G : Nat → Md) : List Opd → List Md → Bool
  | [], [] => true
  | .d _ :: as, m :: ms => decide (m = .dat) && fits G as ms
  | .o i :: as, m :: ms => decide (m = G i) && decide (m ≠ .dat) && fits G as ms
  | _, _ => false
theorem sl_mem : ∀ {as : List Opd} {k i : Nat}, sl as k = some i → i ∈ slots as
  | [], k, i, h => by simp [sl] at h
  | .d _ :: as, 0, i, h => by simp [sl] at h
  | .o j :: as, 0, i, h => by simp [sl] at h; subst h; simp [slots]
  | .d _ :: as, k + 1, i, h => by
    have : sl as k = some i := by simpa [sl] using h
    simpa [slots] using sl_mem this
  | .o j :: as, k + 1, i, h => by
    have : sl as k = some i := by simpa [sl] using h
    exact List.mem_cons_of_mem _ (sl_mem this)
theorem sl_inj : ∀ {as : List Opd} {k k' i : Nat}, (slots as).Nodup → sl as k = some i → sl as k' = some i → k = k'
  | [], k, _, i, _, h, _ => by simp [sl] at h
  | .d _ :: as, 0, _, i, _, h, _ => by simp [sl] at h
  | .d _ :: as, _ + 1, 0, i, _, _, h => by simp [sl] at h
  | .d _ :: as, k + 1, k' + 1, i, n, h, h' => by
    have a : sl as k = some i := by simpa [sl] using h
    have b : sl as k' = some i := by simpa [sl] using h'
    rw [sl_inj (as := as) (by simpa [slots] using n) a b]
  | .o j :: as, 0, 0, i, _, _, _ => rfl
  | .o j :: as, 0, k' + 1, i, n, h, h' => by
    have a : j = i := by simpa [sl] using h
    have b : sl as k' = some i := by simpa [sl] using h'
    subst a
    have n' : j ∉ slots as := by simp only [slots, List.nodup_cons] at n; exact n.1
    exact absurd (sl_mem b) n'
  | .o j :: as, k + 1, 0, i, n, h, h' => by
    have a : j = i := by simpa [sl] using h'
    have b : sl as k = some i := by simpa [sl] using h
    subst a
    have n' : j ∉ slots as := by simp only [slots, List.nodup_cons] at n; exact n.1
    exact absurd (sl_mem b) n'
  | .o j :: as, k + 1, k' + 1, i, n, h, h' => by
    have a : sl as k = some i := by simpa [sl] using h
    have b : sl as k' = some i := by simpa [sl] using h'
    have n' : (slots as).Nodup := by simp only [slots, List.nodup_cons] at n; exact n.2
    rw [sl_inj n' a b]
section
variable {K : PySem.W.Frag} {σ : L2.St} {ε : Sl} {H : Hp} {O : Addr → Prop}
theorem Ar.len {as : List Opd} {ds : List D} {vs : List V} (A : Ar K σ ε H O as ds vs) : ds.length = as.length ∧ vs.length = as.length := by
  induction A with
  | nil => exact ⟨rfl, rfl⟩
  | d _ _ ih => simp [ih]
  | o _ _ _ ih => simp [ih]
theorem Ar.get {as : List Opd} {ds : List D} {vs : List V} (A : Ar K σ ε H O as ds vs) : ∀ {k : Nat} {d : D}, ds[k]? = some d → ∃ v, vs[k]? = some v ∧
    ((sl as k = none ∧ Rep K O H d v) ∨ ∃ i, sl as k = some i ∧ σ[i]? = some (some v) ∧ ε[i]? = some (some d)) := by
  induction A with
  | nil => intro k d h; simp at h
  | @d m r x xs v vs r1 _ ih =>
    intro k d h
    cases k with
    | zero =>
      simp at h
      subst h
      exact ⟨v, rfl, .inl ⟨rfl, r1⟩⟩
    | succ k =>
      obtain ⟨u, hu, q⟩ := ih (k := k) (d := d) (by simpa using h)
      exact ⟨u, by simpa using hu, by simpa [sl] using q⟩
  | @o i r x xs v vs hv he _ ih =>
    intro k d h
    cases k with
    | zero =>
      simp at h
      subst h
      exact ⟨v, rfl, .inr ⟨i, rfl, hv, he⟩⟩
    | succ k =>
      obtain ⟨u, hu, q⟩ := ih (k := k) (d := d) (by simpa using h)
      exact ⟨u, by simpa using hu, by simpa [sl] using q⟩
theorem fits_len : ∀ {G : Nat → Md} {as : List Opd} {pm : List Md}, fits G as pm = true → as.length = pm.length
  | _, [], [], _ => rfl
  | G, .d _ :: as, m :: ms, h => by
    simp only [fits, Bool.and_eq_true] at h
    simp [fits_len h.2]
  | G, .o _ :: as, m :: ms, h => by
    simp only [fits, Bool.and_eq_true] at h
    simp [fits_len h.2]
  | _, [], _ :: _, h => by simp [fits] at h
  | _, .d _ :: _, [], h => by simp [fits] at h
  | _, .o _ :: _, [], h => by simp [fits] at h
theorem fits_at : ∀ {G : Nat → Md} {as : List Opd} {pm : List Md} {k : Nat}, fits G as pm = true → (∀ i, sl as k = some i → gm pm k = G i) ∧ (sl as k = none → gm pm k = .dat)
  | _, [], [], k, _ => by simp [sl, gm]
  | G, .d _ :: as, m :: ms, 0, h => by
    simp only [fits, Bool.and_eq_true, decide_eq_true_eq] at h
    simp [sl, gm, h.1]
  | G, .d _ :: as, m :: ms, k + 1, h => by
    simp only [fits, Bool.and_eq_true, decide_eq_true_eq] at h
    simpa [sl, gm] using fits_at (k := k) h.2
  | G, .o i :: as, m :: ms, 0, h => by
    simp only [fits, Bool.and_eq_true, decide_eq_true_eq] at h
    simp [sl, gm, h.1.1]
  | G, .o _ :: as, m :: ms, k + 1, h => by
    simp only [fits, Bool.and_eq_true, decide_eq_true_eq] at h
    simpa [sl, gm] using fits_at (k := k) h.2
  | _, [], _ :: _, _, h => by simp [fits] at h
  | _, .d _ :: _, [], _, h => by simp [fits] at h
  | _, .o _ :: _, [], _, h => by simp [fits] at h
end
/-- what the callee's parameters own; what else is owned -/
def Fc (as : List Opd) (F : Fp) : Fp := fun k => match sl as k with
  | some i => F i
  | none => []
def Pc (as : List Opd) (F : Fp) (P : Addr → Prop) : Addr → Prop := fun a => P a ∨ ∃ j, j ∉ slots as ∧ a ∈ F j
theorem slots_sl : ∀ {as : List Opd} {i : Nat}, i ∈ slots as → ∃ k, sl as k = some i
  | [], _, h => by simp [slots] at h
  | .d _ :: as, i, h => by
    obtain ⟨k, e⟩ := slots_sl (as := as) (by simpa [slots] using h)
    exact ⟨k + 1, by simpa [sl] using e⟩
  | .o j :: as, i, h => by
    simp only [slots, List.mem_cons] at h
    rcases h with h | h
    · exact ⟨0, by simp [sl, h]⟩
    · obtain ⟨k, e⟩ := slots_sl (as := as) h
      exact ⟨k + 1, by simpa [sl] using e⟩
theorem own_c (as : List Opd) (F : Fp) (P : Addr → Prop) (a : Addr) : Own (Fc as F) (Pc as F P) a ↔ Own F P a := by
  constructor
  · rintro ((z | ⟨j, _, z⟩) | ⟨k, z⟩)
    · exact .inl z
    · exact .inr ⟨j, z⟩
    · unfold Fc at z
      cases e : sl as k with
      | none => rw [e] at z; cases z
      | some i => rw [e] at z; exact .inr ⟨i, z⟩
  · rintro (z | ⟨j, z⟩)
    · exact .inl (.inl z)
    · by_cases m : j ∈ slots as
      · obtain ⟨k, e⟩ := slots_sl m
        exact .inr ⟨k, by unfold Fc; rw [e]; exact z⟩
      · exact .inl (.inr ⟨j, m, z⟩)
theorem back_ok : ∀ {as : List Opd} {ds : List D} {ε ε' : Sl} {u : Unit}, (slots as).Nodup → back as ds ε = .ok u ε' → ε'.length = ε.length ∧ (∀ j, j ∉ slots as → ε'[j]? = ε[j]?) ∧ ∀ k i, sl as k = some i → ∃ d, ds[k]? = some d ∧ ε'[i]? = some (some d)
  | [], ds, ε, ε', u, _, h => by
    simp only [back, pu] at h
    cases h
    exact ⟨rfl, fun _ _ => rfl, fun k i e => by simp [sl] at e⟩
  | .d _ :: as, [], ε, ε', u, _, h => by simp [back, badM] at h
  | .o _ :: as, [], ε, ε', u, _, h => by simp [back, badM] at h
  | .d _ :: as, x :: ds, ε, ε', u, n, h => by
    simp only [back] at h
    obtain ⟨a, b, c⟩ := back_ok (as := as) (by simpa [slots] using n) h
    refine ⟨a, fun j m => b j (by simpa [slots] using m), fun k i e => ?_⟩
    cases k with
    | zero => simp [sl] at e
    | succ k =>
      obtain ⟨d, q1, q2⟩ := c k i (by simpa [sl] using e)
      exact ⟨d, by simpa using q1, q2⟩
  | .o i :: as, x :: ds, ε, ε', u, n, h => by
    simp only [back, bd, wr] at h
    by_cases hi : i < ε.length
    · rw [if_pos hi] at h
      simp only [slots, List.nodup_cons] at n
      obtain ⟨a, b, c⟩ := back_ok n.2 h
      refine ⟨by rw [a, List.length_set], fun j m => ?_, fun k i' e => ?_⟩
      · simp only [slots, List.mem_cons, not_or] at m
        rw [b j m.2, List.getElem?_set_ne (Ne.symm m.1)]
      · cases k with
        | zero =>
          have e' : i = i' := by simpa [sl] using e
          subst e'
          exact ⟨x, rfl, by rw [b i n.1, List.getElem?_set_self hi]⟩
        | succ k =>
          obtain ⟨d, q1, q2⟩ := c k i' (by simpa [sl] using e)
          exact ⟨d, by simpa using q1, q2⟩
    · rw [if_neg hi] at h
      cases h
theorem back_exn : ∀ {as : List Opd} {ds : List D} {ε ε' : Sl} {c : Nat}, back as ds ε ≠ .exn c ε'
  | [], ds, ε, ε', c => by simp [back, pu]
  | .d _ :: as, [], ε, ε', c => by simp [back, badM]
  | .o _ :: as, [], ε, ε', c => by simp [back, badM]
  | .d _ :: as, x :: ds, ε, ε', c => by
    simp only [back]
    exact back_exn
  | .o i :: as, x :: ds, ε, ε', c => by
    simp only [back, bd, wr]
    by_cases hi : i < ε.length
    · rw [if_pos hi]; exact back_exn
    · rw [if_neg hi]; simp
section
variable {C : Cc} {σ : L2.St} {H H1 : Hp} {F : Fp} {P : Addr → Prop} {ε : Sl} {as : List Opd} {pm : List Md} {rm : Md} {ds : List D} {vs : List V}
/-- the callee's start -/
theorem callee (R : RepE C.K C.G H σ ε F P) (A : Ar C.K σ ε H (Own F P) as ds vs) (hf : fits C.G as pm = true) (hn : (slots as).Nodup) : RepE C.K (gm pm) H (vs.map some) (ds.map some) (Fc as F) (Pc as F P) := by
  have oi := own_c as F P
  have g : Grows (Own F P) (Own (Fc as F) (Pc as F P)) H := fun a z => .inl ((oi a).mp z)
  refine ⟨by simp [A.len], fun k d e => ?_, fun k no => ?_, fun k k' a h h' => ?_, fun k a h z => ?_, fun a z => R.dom a ((oi a).mp z)⟩
  · have e' : ds[k]? = some d := by
      rw [List.getElem?_map] at e
      cases q : ds[k]? with
      | none => rw [q] at e; cases e
      | some x => rw [q] at e; simp at e; rw [e]
    obtain ⟨v, hv, q⟩ := A.get e'
    refine ⟨v, by rw [List.getElem?_map, hv]; rfl, ?_⟩
    rcases q with ⟨n, r⟩ | ⟨i, s, hs, he⟩
    · rw [(fits_at (k := k) hf).2 n]
      exact ⟨by unfold Fc; rw [n], Rep.move Keeps.rfl' g _ _ r⟩
    · obtain ⟨u, hu, r⟩ := R.val i d he
      rw [hs] at hu
      cases hu
      rw [(fits_at (k := k) hf).1 i s]
      have : Fc as F k = F i := by unfold Fc; rw [s]
      rw [this]
      exact r.move Keeps.rfl' g fun _ _ _ h => h
  · unfold Fc
    cases s : sl as k with
    | none => rfl
    | some i =>
      exfalso
      have hk : k < ds.length := by
        rw [A.len.1]
        unfold sl at s
        cases q : as[k]? with
        | none => rw [q] at s; cases s
        | some o => exact (List.getElem?_eq_some_iff.mp q).1
      exact no ds[k] (by rw [List.getElem?_map, List.getElem?_eq_getElem hk]; rfl)
  · unfold Fc at h h'
    cases s : sl as k with
    | none => rw [s] at h; cases h
    | some i =>
      cases s' : sl as k' with
      | none => rw [s'] at h'; cases h'
      | some i' =>
        rw [s] at h
        rw [s'] at h'
        have e := R.sep i i' a h h'
        subst e
        exact sl_inj hn s s'
  · unfold Fc at h
    cases s : sl as k with
    | none => rw [s] at h; cases h
    | some i =>
      rw [s] at h
      rcases z with z | ⟨j, m, z⟩
      · exact R.out i a h z
      · have e := R.sep i j a h z
        subst e
        exact m (sl_mem s)
open Classical in
/-- what the caller's slots own behind the call -/
noncomputable def Fb (as : List Opd) (F F' : Fp) : Fp := fun j => if h : ∃ k, sl as k = some j then F' h.choose else F j
theorem Fb_in (hn : (slots as).Nodup) {F F' : Fp} {k j : Nat} (e : sl as k = some j) : Fb as F F' j = F' k := by
  have h : ∃ k, sl as k = some j := ⟨k, e⟩
  unfold Fb
  rw [dif_pos h]
  rw [sl_inj hn h.choose_spec e]
theorem Fb_out {F F' : Fp} {j : Nat} (e : j ∉ slots as) : Fb as F F' j = F j := by
  unfold Fb
  rw [dif_neg fun ⟨k, h⟩ => e (sl_mem h)]
theorem Fb_cases (hn : (slots as).Nodup) (F F' : Fp) (j : Nat) : (∃ k, sl as k = some j ∧ Fb as F F' j = F' k) ∨ (j ∉ slots as ∧ Fb as F F' j = F j) := by
  by_cases m : j ∈ slots as
  · obtain ⟨k, e⟩ := slots_sl m
    exact .inl ⟨k, e, Fb_in hn e⟩
  · exact .inr ⟨m, Fb_out m⟩
/-- behind the call -/
theorem called {H' : Hp} {F' : Fp} {fp : List Addr} {ds' : List D} {ε' : Sl} {u : Unit} (R : RepE C.K C.G H σ ε F P) (A : Ar C.K σ ε H (Own F P) as ds vs) (hf : fits C.G as pm = true) (hn : (slots as).Nodup)
    (R' : RepE C.K (gm pm) H' (vs.map some) (ds'.map some) F' (fun a => Pc as F P a ∨ a ∈ fp)) (y : Fr (Fc as F) H F' H') (nf : ∀ a ∈ fp, H a = none) (hb : back as ds' ε = .ok u ε') (hlen : ∀ k, as.length ≤ k → F' k = []) :
    RepE C.K C.G H' σ ε' (Fb as F F') (fun a => P a ∨ a ∈ fp) ∧ Fr F H (Fb as F F') H' ∧ ∀ a, Own (Fb as F F') (fun a => P a ∨ a ∈ fp) a → Own F' (fun a => Pc as F P a ∨ a ∈ fp) a := by
  obtain ⟨bl, bo, bi⟩ := back_ok hn hb
  have noF : ∀ k, sl as k = none → F' k = [] := fun k e => by
    by_cases hk : k < as.length
    · apply Classical.byContradiction
      intro ne
      have : ∃ d, (ds'.map some)[k]? = some (some d) := Classical.byContradiction fun z => ne (R'.non k fun d q => z ⟨d, q⟩)
      obtain ⟨d, hd⟩ := this
      obtain ⟨v, hv, r⟩ := R'.val k d hd
      rw [(fits_at (k := k) hf).2 e] at r
      exact ne r.1
    · exact hlen k (by omega)
  have up : ∀ a, Own F' (fun a => Pc as F P a ∨ a ∈ fp) a → Own (Fb as F F') (fun a => P a ∨ a ∈ fp) a := by
    rintro a (((z | ⟨j, m, z⟩) | z) | ⟨k, z⟩)
    · exact .inl (.inl z)
    · exact .inr ⟨j, by rw [Fb_out m]; exact z⟩
    · exact .inl (.inr z)
    · cases e : sl as k with
      | none => rw [noF k e] at z; cases z
      | some j => exact .inr ⟨j, by rw [Fb_in hn e]; exact z⟩
  have down : ∀ a, Own (Fb as F F') (fun a => P a ∨ a ∈ fp) a → Own F' (fun a => Pc as F P a ∨ a ∈ fp) a := by
    rintro a ((z | z) | ⟨j, z⟩)
    · exact .inl (.inl (.inl z))
    · exact .inl (.inr z)
    · rcases Fb_cases hn F F' j with ⟨k, _, e⟩ | ⟨m, e⟩
      · rw [e] at z; exact .inr ⟨k, z⟩
      · rw [e] at z; exact .inl (.inl (.inr ⟨j, m, z⟩))
  have fr : Fr F H (Fb as F F') H' := by
    refine ⟨fun a o h n => y.keep a o h fun k z => ?_, fun j a z => ?_, y.live⟩
    · unfold Fc at z
      cases e : sl as k with
      | none => rw [e] at z; cases z
      | some i => rw [e] at z; exact n i z
    · rcases Fb_cases hn F F' j with ⟨k, _, e⟩ | ⟨m, e⟩
      · rw [e] at z
        rcases y.grow k a z with ⟨k', z⟩ | z
        · unfold Fc at z
          cases e' : sl as k' with
          | none => rw [e'] at z; cases z
          | some i => rw [e'] at z; exact .inl ⟨i, z⟩
        · exact .inr z
      · rw [e] at z; exact .inl ⟨j, z⟩
  have g : Grows (Own F P) (Own (Fb as F F') (fun a => P a ∨ a ∈ fp)) H := by
    rintro a ((z | z) | ⟨j, z⟩)
    · exact .inl (.inl z)
    · exact .inr (nf a z)
    · rcases fr.grow j a z with ⟨i, z⟩ | z
      · exact .inl (.inr ⟨i, z⟩)
      · exact .inr z
  refine ⟨⟨by rw [bl, R.len], fun j d e => ?_, fun j no => ?_, fun j j' a h h' => ?_, fun j a h z => ?_, fun a z => R'.dom a (down a z)⟩, fr, down⟩
  · rcases Fb_cases hn F F' j with ⟨k, s, ef⟩ | ⟨m, ef⟩
    · obtain ⟨d', q1, q2⟩ := bi k j s
      rw [e] at q2
      have : d = d' := Option.some.inj (Option.some.inj q2)
      subst this
      obtain ⟨v, hv, r⟩ := R'.val k d (by rw [List.getElem?_map, q1]; rfl)
      have hd : ∃ d0, ds[k]? = some d0 := by
        have hk : k < ds.length := by
          rw [A.len.1]
          unfold sl at s
          cases q : as[k]? with
          | none => rw [q] at s; cases s
          | some o => exact (List.getElem?_eq_some_iff.mp q).1
        exact ⟨_, List.getElem?_eq_getElem hk⟩
      obtain ⟨d0, hd0⟩ := hd
      obtain ⟨v0, hv0, q⟩ := A.get hd0
      have ev : v0 = v := by
        rw [List.getElem?_map, hv0] at hv
        exact Option.some.inj (Option.some.inj hv)
      subst ev
      rcases q with ⟨n, _⟩ | ⟨i, s', hs, _⟩
      · rw [n] at s; cases s
      · have : i = j := Option.some.inj (s'.symm.trans s)
        subst this
        refine ⟨v0, hs, ?_⟩
        rw [ef, ← (fits_at (k := k) hf).1 i s]
        exact r.move Keeps.rfl' (fun a z => .inl (down a z)) fun _ _ _ h => h
    · rw [bo j m] at e
      obtain ⟨v, hv, r⟩ := R.val j d e
      refine ⟨v, hv, ?_⟩
      rw [ef]
      refine r.move (fun a o h n => fr.keep a o h fun i hi => n (.inr ⟨i, hi⟩)) g fun a ha o ho => y.keep a o ho fun k z => ?_
      unfold Fc at z
      cases s : sl as k with
      | none => rw [s] at z; cases z
      | some i =>
        rw [s] at z
        have e := R.sep i j a z ha
        subst e
        exact m (sl_mem s)
  · rcases Fb_cases hn F F' j with ⟨k, s, ef⟩ | ⟨m, ef⟩
    · obtain ⟨d', q1, q2⟩ := bi k j s
      exact absurd q2 (no d')
    · rw [ef]
      refine R.non j fun d => ?_
      rw [← bo j m]
      exact no d
  · rcases Fb_cases hn F F' j with ⟨k, s, ef⟩ | ⟨m, ef⟩
    · rcases Fb_cases hn F F' j' with ⟨k', s', ef'⟩ | ⟨m', ef'⟩
      · rw [ef] at h
        rw [ef'] at h'
        have e := R'.sep k k' a h h'
        subst e
        exact Option.some.inj (s.symm.trans s')
      · rw [ef] at h
        rw [ef'] at h'
        exact (R'.out k a h (.inl (.inr ⟨j', m', h'⟩))).elim
    · rcases Fb_cases hn F F' j' with ⟨k', s', ef'⟩ | ⟨m', ef'⟩
      · rw [ef] at h
        rw [ef'] at h'
        exact (R'.out k' a h' (.inl (.inr ⟨j, m, h⟩))).elim
      · rw [ef] at h
        rw [ef'] at h'
        exact R.sep j j' a h h'
  · rcases Fb_cases hn F F' j with ⟨k, s, ef⟩ | ⟨m, ef⟩
    · rw [ef] at h
      rcases z with z | z
      · exact R'.out k a h (.inl (.inl z))
      · exact R'.out k a h (.inr z)
    · rw [ef] at h
      rcases z with z | z
      · exact R.out j a h z
      · exact R.dom a (.inr ⟨j, h⟩) (nf a z)
end
end Lk

end
section
set_option maxRecDepth 100000
set_option maxHeartbeats 4000000
/-! Lk5: the rule of a call; statements. -/
namespace Lk
open PySem PySem.Spec PyProof.Rows L2 Cr
section
variable {C : Cc} {σ : L2.St} {H : Hp} {as : List Opd} {pm : List Md} {rm : Md} {f : Fn} {cl : Nat → Addr}
theorem callF_run (hf : fits C.G as pm = true) (hn : (slots as).Nodup) {E : XK} (hE : ∀ c H', C.W c σ H' → E (.ref (cl c)) none H') {Q : VK} (h : tF C rm (callF f as) σ H Q) :
    tAs C as σ H fun vs H1 => spF C.K pm rm cl f vs H1 Q E := by
  obtain ⟨ε, F, P, R, h⟩ := h
  refine tAs.imp _ (gopds OkF.stp R h) fun vs H1 ⟨ds, ε1, F1, R1, y1, A, h1⟩ => ?_
  have hl : vs.length = pm.length := A.len.2.trans (fits_len hf)
  refine ⟨ds, Fc as F1, Pc as F1 P, callee R1 A hf hn, hl, ?_⟩
  cases e : f ds with
  | bad =>
    simp only [e] at h1
    exact h1.elim
  | exn c =>
    simp only [e] at h1
    by_cases ns : slots as = []
    case neg =>
      rw [if_neg ns] at h1
      exact h1.elim
    rw [if_pos ns] at h1
    have noF : ∀ i, Fc as F1 i = [] := fun i => by
      unfold Fc
      cases s : sl as i with
      | none => rfl
      | some j => exact absurd (sl_mem s) (by rw [ns]; simp)
    exact ⟨noF, fun H' x => hE c H' (h1 H' F1 (R1.grow x) (Fr.ext x))⟩
  | ok d ds' =>
    simp only [e] at h1
    intro v H' F' fp R' y nf r
    cases eb : back as ds' ε1 with
    | exn c e' => exact (back_exn eb).elim
    | bad =>
      simp only [bd, eb] at h1
      exact h1.elim
    | ok u ε2 =>
      simp only [bd, eb, pu] at h1
      have hlen : ∀ k, as.length ≤ k → F' k = [] := fun k hk => R'.non k fun d q => by
        have l := R'.len
        simp only [List.length_map] at l
        rw [List.getElem?_map, List.getElem?_eq_none (by rw [l, A.len.2]; exact hk)] at q
        cases q
      obtain ⟨R2, y2, dn⟩ := called R1 A hf hn R' y nf eb hlen
      exact h1 v H' (Fb as F1 F') fp R2 y2 nf (r.move Keeps.rfl' (fun a z => .inl (dn a z)) fun _ _ _ h => h)
end
/-! ### statements -/
def Pin (C : Cc) (σ σ' : L2.St) : Prop := σ'.length = σ.length ∧ ∀ i, C.pin i = true → σ'[i]? = σ[i]?
def OkS (C : Cc) (D : Ends) (P : Addr → Prop) (σ : L2.St) (H : Hp) (F : Fp) (o : Out Fl) : Prop :=
  match o with
  | .ok .nx ε' => ∀ σ' H' F', RepE C.K C.G H' σ' ε' F' P → Fr F H F' H' → Pin C σ σ' → D.nx σ' H'
  | .ok .bk ε' => ∀ σ' H' F', RepE C.K C.G H' σ' ε' F' P → Fr F H F' H' → Pin C σ σ' → D.bk σ' H'
  | .ok .ct ε' => ∀ σ' H' F', RepE C.K C.G H' σ' ε' F' P → Fr F H F' H' → Pin C σ σ' → D.ct σ' H'
  | .ok (.rt d) ε' => ∀ v σ' H' F' fp, RepE C.K C.G H' σ' ε' F' (fun a => P a ∨ a ∈ fp) → Fr F H F' H' → Pin C σ σ' → (∀ a ∈ fp, (∃ j, a ∈ F j) ∨ H a = none) → RepM C.K (Own F' (fun a => P a ∨ a ∈ fp)) H' C.rm d v fp → D.rt v H'
  | .exn c ε' => ∀ σ' H' F', RepE C.K C.G H' σ' ε' F' P → Fr F H F' H' → C.W c σ' H'
  | .bad => False
def tS (C : Cc) (m : S) : TS := fun D σ H => ∃ ε F P, RepE C.K C.G H σ ε F P ∧ OkS C D P σ H F (m ε)
section
variable {C : Cc} {σ σ1 : L2.St} {H H1 : Hp} {F F1 : Fp} {P : Addr → Prop} {ε : Sl} {D D' : Ends}
theorem Pin.refl : Pin C σ σ := ⟨rfl, fun _ _ => rfl⟩
theorem Pin.trans {σ2 : L2.St} (a : Pin C σ σ1) (b : Pin C σ1 σ2) : Pin C σ σ2 := ⟨b.1.trans a.1, fun i h => (b.2 i h).trans (a.2 i h)⟩
theorem grow_trans {fp : List Addr} (x : Fr F H F1 H1) (n : ∀ a ∈ fp, (∃ j, a ∈ F1 j) ∨ H1 a = none) : ∀ a ∈ fp, (∃ j, a ∈ F j) ∨ H a = none := fun a ha => by
  rcases n a ha with ⟨j, z⟩ | z
  · exact x.grow j a z
  · exact .inr (x.back z)
theorem OkS.step {o : Out Fl} (h : OkS C D P σ H F o) (x : Fr F H F1 H1) (p : Pin C σ σ1) : OkS C D P σ1 H1 F1 o := by
  cases o with
  | ok f e =>
    cases f with
    | nx => exact fun σ' H' F' R y q => h σ' H' F' R (x.trans y) (p.trans q)
    | bk => exact fun σ' H' F' R y q => h σ' H' F' R (x.trans y) (p.trans q)
    | ct => exact fun σ' H' F' R y q => h σ' H' F' R (x.trans y) (p.trans q)
    | rt d => exact fun v σ' H' F' fp R y q n r => h v σ' H' F' fp R (x.trans y) (p.trans q) (grow_trans x n) r
  | exn c e => exact fun σ' H' F' R y => h σ' H' F' R (x.trans y)
  | bad => exact h
theorem OkS.stp : Stp C σ P (OkS C D P σ) := ⟨fun H F o H1 F1 h x => OkS.step h x Pin.refl, fun H F c ε h H' F' R y => h σ H' F' R y, fun _ _ h => h⟩
/-- one statement, then the next -/
theorem OkS.seq {a b : S} (h : OkS C D P σ H F (seqS a b ε)) : OkS C { D with nx := tS C b D } P σ H F (a ε) := by
  unfold seqS bd at h
  cases e : a ε with
  | ok f e1 =>
    rw [e] at h
    cases f with
    | nx => exact fun σ' H' F' R y p => ⟨e1, F', P, R, OkS.step h y p⟩
    | bk => exact h
    | ct => exact h
    | rt d => exact h
  | exn c e1 => rw [e] at h; exact h
  | bad => rw [e] at h; exact h
end
section
variable {X : Cx} {C : Cc} {st : Stmt} {sts : List Stmt} {e t : Expr} {a b : S} {m : M D} {tm : M Bool} {pos : Pos} {md : Md}
theorem rs_nil : PSs X [] (tS C Cr.nx) := PSs.mono pss_nil fun D σ H ⟨ε, F, P, R, h⟩ => h σ H F R Fr.refl Pin.refl
theorem rs_one (h : PS X st (tS C a)) : PSs X [st] (tS C a) := pss_one h
theorem rs_cons (h : PS X st (tS C a)) (k : PSs X sts (tS C b)) : PSs X (st :: sts) (tS C (seqS a b)) := PSs.mono (pss_cons h k) fun D σ H ⟨ε, F, P, R, h⟩ => ⟨ε, F, P, R, h.seq⟩
theorem rs_never : PSs X sts (tS C badM) := ⟨fun pins s σ H D I ⟨ε, F, P, R, h⟩ => h.elim⟩
theorem rs_pass : PS X (.Pass pos) (tS C Cr.nx) := PS.mono ps_pass fun D σ H ⟨ε, F, P, R, h⟩ => h σ H F R Fr.refl Pin.refl
theorem rs_doc {x j pos pos'} : PS X (.Expr (.Constant (.str x) j pos) pos') (tS C Cr.nx) := PS.mono ps_doc fun D σ H ⟨ε, F, P, R, h⟩ => h σ H F R Fr.refl Pin.refl
theorem rs_break : PS X (.Break pos) (tS C (pu .bk)) := PS.mono ps_break fun D σ H ⟨ε, F, P, R, h⟩ => h σ H F R Fr.refl Pin.refl
theorem rs_cont : PS X (.Continue pos) (tS C (pu .ct)) := PS.mono ps_continue fun D σ H ⟨ε, F, P, R, h⟩ => h σ H F R Fr.refl Pin.refl
theorem rs_if {l r : List Stmt} (ht : PT X t (tT C tm)) (ha : PSs X l (tS C a)) (hb : PSs X r (tS C b)) : PS X (.If t l r pos) (tS C (ifS tm a b)) :=
  PS.mono (ps_if ht ha hb) fun D σ H ⟨ε, F, P, R, h⟩ => tT.imp (gT_bd OkS.stp R h) fun k H1 ⟨ε1, F1, R1, y1, h1⟩ => by
    cases k with
    | true => exact iteT ⟨ε1, F1, P, R1, h1⟩
    | false => exact iteF ⟨ε1, F1, P, R1, h1⟩
theorem rs_expr (he : PE X e (tE C m)) (hs : swapsWith e none pos.line X.env = pure false := by rfl) : PS X (.Expr e pos) (tS C (exprS m)) :=
  PS.mono (ps_expr he hs) fun D σ H ⟨ε, F, P, R, h⟩ => tE.imp (gE_bd OkS.stp R h) fun v H1 ⟨d, ε1, F1, R1, y1, r1, h1⟩ => h1 σ H1 F1 R1 Fr.refl Pin.refl
theorem own_nil {F : Fp} {P : Addr → Prop} : ∀ a, Own F (fun a => P a ∨ a ∈ ([] : List Addr)) a ↔ Own F P a := fun a => by simp [Own]
theorem RepE.nilP {K : PySem.W.Frag} {G : Nat → Md} {H : Hp} {σ : L2.St} {ε : Sl} {F : Fp} {P : Addr → Prop} (R : RepE K G H σ ε F P) : RepE K G H σ ε F (fun a => P a ∨ a ∈ ([] : List Addr)) := by
  have e : (fun a => P a ∨ a ∈ ([] : List Addr)) = P := by funext a; simp
  rw [e]
  exact R
theorem Rep.nilP {K : PySem.W.Frag} {H : Hp} {F : Fp} {P : Addr → Prop} {d : D} {v : V} (r : Rep K (Own F P) H d v) : Rep K (Own F (fun a => P a ∨ a ∈ ([] : List Addr))) H d v := r.weak fun a z => (own_nil a).mp z
theorem rs_ret (hr : C.rm = .dat) (he : PE X e (tE C m)) : PS X (.Return (some e) pos) (tS C (retS m)) :=
  PS.mono (ps_ret he) fun D σ H ⟨ε, F, P, R, h⟩ => tE.imp (gE_bd OkS.stp R h) fun v H1 ⟨d, ε1, F1, R1, y1, r1, h1⟩ =>
    h1 v σ H1 F1 [] R1.nilP Fr.refl Pin.refl (fun a ha => by cases ha) (by rw [hr]; exact ⟨rfl, r1.nilP⟩)
theorem OkS.retF {σ : L2.St} {H : Hp} {F : Fp} {P : Addr → Prop} {ε : Sl} {D : Ends} (h : OkS C D P σ H F (retS m ε)) : OkF C C.rm σ D.rt P H F (m ε) := by
  unfold retS bd at h
  cases e : m ε with
  | ok d e1 =>
    rw [e] at h
    exact fun v H' F' fp R y n r => h v σ H' F' fp R y Pin.refl (fun a ha => .inr (n a ha)) r
  | exn c e1 => rw [e] at h; exact fun H' F' R y => h σ H' F' R y
  | bad => rw [e] at h; exact h
theorem rs_retF (he : PE X e (tF C C.rm m)) : PS X (.Return (some e) pos) (tS C (retS m)) :=
  PS.mono (ps_ret he) fun D σ H ⟨ε, F, P, R, h⟩ => ⟨ε, F, P, R, h.retF⟩
theorem rs_retN (hr : C.rm = .dat) : PS X (.Return none pos) (tS C (retS (cst .non))) :=
  PS.mono ps_retN fun D σ H ⟨ε, F, P, R, h⟩ => h .non σ H F [] R.nilP Fr.refl Pin.refl (fun a ha => by cases ha) (by rw [hr]; exact ⟨rfl, rfl⟩)
/-- what slot i owned is let go -/
def Fset (F : Fp) (i : Nat) (fp : List Addr) : Fp := fun j => if j = i then fp else F j
theorem Fset_same {F : Fp} {i : Nat} {fp : List Addr} : Fset F i fp i = fp := by unfold Fset; rw [if_pos rfl]
theorem Fset_ne {F : Fp} {i j : Nat} {fp : List Addr} (h : j ≠ i) : Fset F i fp j = F j := by unfold Fset; rw [if_neg h]
/-- a slot gets a value: what it owned before is let go, what was kept apart for it is its own -/
theorem RepE.put {K : PySem.W.Frag} {G : Nat → Md} {H : Hp} {σ : L2.St} {ε : Sl} {F : Fp} {P : Addr → Prop} {i : Nat} {d : D} {v : V} {fp : List Addr} (R : RepE K G H σ ε F (fun a => P a ∨ a ∈ fp)) (hP : ∀ a ∈ fp, ¬ P a)
    (r : RepM K (Own F (fun a => P a ∨ a ∈ fp)) H (G i) d v fp) (hi : i < ε.length) : RepE K G H (σ.set i (some v)) (ε.set i (some d)) (Fset F i fp) P := by
  have g : Grows (Own F (fun a => P a ∨ a ∈ fp)) (Own (Fset F i fp) P) H := by
    rintro a (z | ⟨j, z⟩)
    · exact .inl (.inl (.inl z))
    · by_cases e : j = i
      · subst e
        rw [Fset_same] at z
        exact .inl (.inl (.inr z))
      · rw [Fset_ne e] at z
        exact .inl (.inr ⟨j, z⟩)
  have hi' : i < σ.length := by rw [← R.len]; exact hi
  refine ⟨by simp [R.len], fun j x e => ?_, fun j no => ?_, fun j k a h h' => ?_, fun j a h z => ?_, fun a z => (g a z).elim (R.dom a) fun q => ?_⟩
  · by_cases ej : j = i
    · subst ej
      rw [List.getElem?_set_self hi] at e
      have : x = d := (Option.some.inj (Option.some.inj e)).symm
      subst this
      refine ⟨v, by rw [List.getElem?_set_self hi'], ?_⟩
      rw [Fset_same]
      exact r.move Keeps.rfl' g fun _ _ _ h => h
    · rw [List.getElem?_set_ne (Ne.symm ej)] at e
      obtain ⟨u, hu, q⟩ := R.val j x e
      refine ⟨u, by rw [List.getElem?_set_ne (Ne.symm ej)]; exact hu, ?_⟩
      rw [Fset_ne ej]
      exact q.move Keeps.rfl' g fun _ _ _ h => h
  · by_cases ej : j = i
    · subst ej
      exact absurd (List.getElem?_set_self hi) (no d)
    · rw [Fset_ne ej]
      refine R.non j fun x => ?_
      have := no x
      rwa [List.getElem?_set_ne (Ne.symm ej)] at this
  · by_cases ej : j = i
    · by_cases ek : k = i
      · rw [ej, ek]
      · subst ej
        rw [Fset_same] at h
        rw [Fset_ne ek] at h'
        exact (R.out k a h' (.inr h)).elim
    · by_cases ek : k = i
      · subst ek
        rw [Fset_same] at h'
        rw [Fset_ne ej] at h
        exact (R.out j a h (.inr h')).elim
      · rw [Fset_ne ej] at h
        rw [Fset_ne ek] at h'
        exact R.sep j k a h h'
  · by_cases ej : j = i
    · subst ej
      rw [Fset_same] at h
      exact hP a h z
    · rw [Fset_ne ej] at h
      exact R.out j a h (.inl z)
  · rcases z with z | ⟨j, z⟩
    · exact R.dom a (.inl (.inl z))
    · by_cases ej : j = i
      · subst ej
        rw [Fset_same] at z
        exact R.dom a (.inl (.inr z))
      · rw [Fset_ne ej] at z
        exact R.dom a (.inr ⟨j, z⟩)
theorem Fr.put {F : Fp} {H : Hp} {F' : Fp} {H' : Hp} {i : Nat} {fp : List Addr} (x : Fr F H F' H') (n : ∀ a ∈ fp, H a = none) : Fr F H (Fset F' i fp) H' :=
  ⟨x.keep, fun j a z => by
    by_cases e : j = i
    · subst e; rw [Fset_same] at z; exact .inr (n a z)
    · rw [Fset_ne e] at z; exact x.grow j a z, x.live⟩
theorem pin_set {σ : L2.St} {i : Nat} {x : Option V} (hp : C.pin i = false) : Pin C σ (σ.set i x) := ⟨by simp, fun j h => by
  by_cases e : j = i
  · subst e; rw [hp] at h; cases h
  · exact List.getElem?_set_ne (Ne.symm e)⟩
/-- x = e, e data -/
theorem asg_run {i : Nat} (hG : C.G i = .dat) (hp : C.pin i = false) {D : Ends} {σ : L2.St} {H : Hp} (h : tS C (asg m (tgN i)) D σ H) : tAsg (tE C m) (gName i) D σ H := by
  obtain ⟨ε, F, P, R, h⟩ := h
  refine tE.imp (gE_bd OkS.stp R h) fun v H1 ⟨d, ε1, F1, R1, y1, r1, h1⟩ => ?_
  unfold stT tgN at h1
  by_cases hi : i < ε1.length
  · rw [if_pos hi] at h1
    exact h1 _ H1 _ (RepE.put R1.nilP (fun a ha => by cases ha) (by rw [hG]; exact ⟨rfl, r1.nilP⟩) hi) (Fr.put Fr.refl fun a ha => by cases ha) (pin_set hp)
  · rw [if_neg hi] at h1
    exact h1.elim
/-- x = e, e new, x its owner -/
theorem asgF_run {i : Nat} (hp : C.pin i = false) {D : Ends} {σ : L2.St} {H : Hp} (h : tS C (asg m (tgN i)) D σ H) : tAsg (tF C (C.G i) m) (gName i) D σ H := by
  obtain ⟨ε, F, P, R, h⟩ := h
  refine ⟨ε, F, P, R, ?_⟩
  unfold asg bd at h
  cases e : m ε with
  | ok d e1 =>
    rw [e] at h
    simp only [stT, tgN] at h
    by_cases hi : i < e1.length
    · rw [if_pos hi] at h
      intro v H' F' fp R' y n r
      refine h _ H' _ (RepE.put R' (fun a ha z => R.dom a (.inl z) (n a ha)) r hi) (y.put n) (pin_set hp)
    · rw [if_neg hi] at h
      exact h.elim
  | exn c e1 => rw [e] at h; exact fun H' F' R y => h σ H' F' R y
  | bad => rw [e] at h; exact h
theorem rs_asg {i : Nat} (hG : C.G i = .dat) (hp : C.pin i = false) (h : PS X st (tAsg (tE C m) (gName i))) : PS X st (tS C (asg m (tgN i))) := PS.mono h fun D σ H h => asg_run hG hp h
theorem rs_asgF {i : Nat} {md : Md} (hG : C.G i = md) (hp : C.pin i = false) (h : PS X st (tAsg (tF C md m) (gName i))) : PS X st (tS C (asg m (tgN i))) := by
  subst hG
  exact PS.mono h fun D σ H q => asgF_run hp q
end
end Lk

end
section
set_option maxRecDepth 100000
set_option maxHeartbeats 4000000
/-! Lk6: targets, loops. -/
namespace Lk
open PySem PySem.Spec PyProof.Rows L2 Cr
/-! ### targets -/
/-- the wish behind a store -/
def OkT (C : Cc) (P : Addr → Prop) (σ : L2.St) (Q : L2.St → Hp → Prop) (H : Hp) (F : Fp) (o : Option Sl) : Prop :=
  ∃ ε', o = some ε' ∧ ∀ σ' H' F', RepE C.K C.G H' σ' ε' F' P → Fr F H F' H' → Pin C σ σ' → Q σ' H'
def tG (C : Cc) (t : Tg) : TG := fun v σ H Q => ∃ d ε F P, RepE C.K C.G H σ ε F P ∧ Rep C.K (Own F P) H d v ∧ OkT C P σ Q H F (t d ε)
def tGs (C : Cc) (ts : List Tg) : TGs := fun vs σ H Q => ∃ ds ε F P, RepE C.K C.G H σ ε F P ∧ RepL C.K (Own F P) H ds vs ∧ OkT C P σ Q H F (tgs ts ds ε)
section
variable {X : Cx} {e : Expr} {es : List Expr} {C : Cc}
theorem PG.mono {t t' : TG} (h : PG X e t) (m : ∀ v σ H Q, t' v σ H Q → t v σ H Q) : PG X e t' := ⟨fun pins s σ H v u Q I r q => h.run pins s σ H v u Q I r (m _ _ _ _ q)⟩
theorem PGs.mono {t t' : TGs} (h : PGs X es t) (m : ∀ v σ H Q, t' v σ H Q → t v σ H Q) : PGs X es t' := ⟨fun pins s σ H v u Q I r q => h.run pins s σ H v u Q I r (m _ _ _ _ q)⟩
theorem rg_name {i : Nat} (hG : C.G i = .dat) (hp : C.pin i = false) (h : PG X e (gName i)) : PG X e (tG C (tgN i)) := PG.mono h fun v σ H Q ⟨d, ε, F, P, R, r, ε', q, k⟩ => by
  unfold tgN at q
  by_cases hi : i < ε.length
  · rw [if_pos hi] at q
    cases q
    exact k _ H _ (RepE.put R.nilP (fun a ha => by cases ha) (by rw [hG]; exact ⟨rfl, r.nilP⟩) hi) (Fr.put Fr.refl fun a ha => by cases ha) (pin_set hp)
  · rw [if_neg hi] at q
    cases q
theorem rgs_nil : PGs X [] (tGs C []) := PGs.mono pgs_nil fun vs σ H Q ⟨ds, ε, F, P, R, r, ε', q, k⟩ => by
  cases ds with
  | nil => cases q; exact ⟨r, k σ H F R Fr.refl Pin.refl⟩
  | cons d ds => cases q
theorem rgs_cons {t : Tg} {ts : List Tg} (h1 : PG X e (tG C t)) (h2 : PGs X es (tGs C ts))
    (hs : (assignEach (e :: es) X.env).map (·.2) = assign e X.env :: (assignEach es X.env).map (·.2) := by rfl) : PGs X (e :: es) (tGs C (t :: ts)) := PGs.mono (pgs_cons h1 h2 hs) fun vs σ H Q ⟨ds, ε, F, P, R, r, ε', q, k⟩ => by
  cases ds with
  | nil => cases q
  | cons d ds =>
    obtain ⟨v, vr, rfl, r1, r2⟩ := r
    unfold tgs at q
    cases e1 : t d ε with
    | none => rw [e1] at q; cases q
    | some ε1 =>
      rw [e1] at q
      exact ⟨v, vr, rfl, d, ε, F, P, R, r1, ε1, e1, fun σ1 H1 F1 R1 y1 p1 => ⟨ds, ε1, F1, P, R1, y1.repL r2, ε', q, fun σ2 H2 F2 R2 y2 p2 => k σ2 H2 F2 R2 (y1.trans y2) (p1.trans p2)⟩⟩
theorem tgs_len : ∀ {ts : List Tg} {ds : List D} {ε ε' : Sl}, tgs ts ds ε = some ε' → ds.length = ts.length
  | [], [], _, _, _ => rfl
  | t :: ts, d :: ds, ε, ε', h => by
    unfold tgs at h
    cases e : t d ε with
    | some e1 =>
      rw [e] at h
      simp [tgs_len h]
    | none => rw [e] at h; cases h
  | [], _ :: _, _, _, h => by simp [tgs] at h
  | _ :: _, [], _, _, h => by simp [tgs] at h
theorem rg_tup {ts : List Tg} {k : Nat} {n : Nat} {pos : Pos} (hc : X.calm = true) (h : PGs X es (tGs C ts)) (hX : X.K = C.K) (hn : (assignEach es X.env).length = n := by rfl) (hst : (assignEach es X.env).findIdx? (·.1) = none := by rfl) (hl : ts.length = n := by rfl) :
    PG X (.Tuple es k pos) (tG C (tgT ts)) := PG.mono (pg_tup hc h hn hst) fun v σ H Q ⟨d, ε, F, P, R, r, ε', q, k⟩ => by
  cases d with
  | tup ds =>
    obtain ⟨a, vs, rfl, t, l⟩ := r
    exact ⟨a, vs, rfl, by rw [hX]; exact t.sq, by rw [l.length, ← hl]; exact tgs_len q, ds, ε, F, P, R, l, ε', q, k⟩
  | _ => cases q
theorem stT_run {D : Ends} {P : Addr → Prop} {σ : L2.St} {H : Hp} {F : Fp} {o : Sl → Option Sl} {ε : Sl} (h : OkS C D P σ H F (stT o .nx ε)) : OkT C P σ D.nx H F (o ε) := by
  unfold stT at h
  cases e : o ε with
  | some e1 => rw [e] at h; exact ⟨e1, rfl, h⟩
  | none => rw [e] at h; exact h.elim
/-- target = e -/
theorem rs_asgT {st : Stmt} {m : M D} {t : Tg} (h : PS X st (tAsg (tE C m) (tG C t))) : PS X st (tS C (asg m t)) := PS.mono h fun D σ H ⟨ε, F, P, R, h⟩ =>
  tE.imp (gE_bd OkS.stp R h) fun v H1 ⟨d, ε1, F1, R1, y1, r1, h1⟩ => ⟨d, ε1, F1, P, R1, r1, stT_run h1⟩
end
/-! ### what is walked -/
/-- the iterator J gives out what ds says, while what lies outside O stands -/
def Walks (K : PySem.W.Frag) (J : It) (H : Hp) (O : Addr → Prop) (ds : List D) : Prop := ∀ (H1 : Hp) (O1 : Addr → Prop), Keeps O H H1 → Grows O O1 H → (∀ a, O1 a → H1 a ≠ none) → ∀ i,
  (∀ d, ds[i]? = some d → J.go i H1 ∧ ∀ x H', J.yld i H1 x H' → (∀ a o, H1 a = some o → H' a = some o) ∧ Rep K O1 H' d x) ∧ (ds.length ≤ i → J.stop i H1)
def OkI (C : Cc) (P : Addr → Prop) (σ : L2.St) (R : It → Hp → Prop) (H : Hp) (F : Fp) (o : Out (List D)) : Prop :=
  match o with
  | .ok ds ε' => ∀ J H' F', RepE C.K C.G H' σ ε' F' P → Fr F H F' H' → Walks C.K J H' (Own F' P) ds → R J H'
  | .exn c ε' => ∀ H' F', RepE C.K C.G H' σ ε' F' P → Fr F H F' H' → C.W c σ H'
  | .bad => False
def tI (C : Cc) (m : M (List D)) : TI := fun σ H R => ∃ ε F P, RepE C.K C.G H σ ε F P ∧ OkI C P σ R H F (m ε)
theorem OkI.stp {C : Cc} {P : Addr → Prop} {σ : L2.St} {R : It → Hp → Prop} : Stp C σ P (OkI C P σ R) := by
  refine ⟨fun H F o H1 F1 h x => ?_, fun _ _ _ _ h => h, fun _ _ h => h⟩
  cases o with
  | ok d e => exact fun J H' F' R y w => h J H' F' R (x.trans y) w
  | exn c e => exact fun H' F' R y => h H' F' R (x.trans y)
  | bad => exact h
section
variable {X : Cx} {e t : Expr} {es : List Expr} {C : Cc}
theorem PI.mono {w w' : TI} (h : PI X t e w) (m : ∀ σ H R, w' σ H R → w σ H R) : PI X t e w' := ⟨fun pins s σ H R I q => h.run pins s σ H R I (m _ _ _ q)⟩
theorem walks_list {K : PySem.W.Frag} {H : Hp} {O : Addr → Prop} {a : Addr} {vs : List V} {ds : List D} (hl : LstA K O H a vs) (r : RepL K O H ds vs) : Walks K (Itl K a) H O ds := fun H1 O1 k g dm i => by
  have q : SqL K H1 a vs := (hl.move k g).sq
  have r1 : RepL K O1 H1 ds vs := RepL.move k g _ _ r
  refine ⟨fun d hd => ?_, fun hn => ⟨vs, q, by rw [r.length]; exact hn⟩⟩
  obtain ⟨v, hv, rv⟩ := r1.get hd
  refine ⟨⟨vs, v, q, hv⟩, fun x H' ⟨e, y⟩ => ?_⟩
  subst e
  have : v = x := Option.some.inj (hv.symm.trans (y vs q))
  subst this
  exact ⟨fun _ _ h => h, rv⟩
theorem walks_tup {K : PySem.W.Frag} {H : Hp} {O : Addr → Prop} {a : Addr} {vs : List V} {ds : List D} (hl : TupA K O H a vs) (r : RepL K O H ds vs) : Walks K (Itt K a) H O ds := fun H1 O1 k g dm i => by
  have q : SqT K H1 a vs := (hl.move k g).sq
  have r1 : RepL K O1 H1 ds vs := RepL.move k g _ _ r
  refine ⟨fun d hd => ?_, fun hn => ⟨vs, q, by rw [r.length]; exact hn⟩⟩
  obtain ⟨v, hv, rv⟩ := r1.get hd
  refine ⟨⟨vs, v, q, hv⟩, fun x H' ⟨e, y⟩ => ?_⟩
  subst e
  have : v = x := Option.some.inj (hv.symm.trans (y vs q))
  subst this
  exact ⟨fun _ _ h => h, rv⟩
end
end Lk

end
section
set_option maxRecDepth 100000
set_option maxHeartbeats 4000000
/-! Lk7: loops, comprehensions. -/
namespace Lk
open PySem PySem.Spec PyProof.Rows L2 Cr
section
variable {X : Cx} {tg l : Expr} {C : Cc}
/-- a list or a tuple that is walked -/
def iSeq (K : PySem.W.Frag) (tl : TE) : TI := fun σ H R => tl σ H fun x H1 => ∃ a, x = .ref a ∧ (((∃ xs, SqL K H1 a xs) ∧ R (Itl K a) H1) ∨ ((∃ xs, SqT K H1 a xs) ∧ R (Itt K a) H1))
theorem pi_seq {tl : TE} (hl : PE X l tl) : PI X tg l (iSeq X.K tl) := by
  refine ⟨fun pins s σ H R I h => ?_⟩
  refine thn (hl.run pins s σ H _ I h) fun v s1 ⟨x, H1, I1, r1, q1⟩ => ?_
  obtain ⟨a, e, q⟩ := q1
  subst e
  cases r1
  rcases q with ⟨⟨xs, hq⟩, q⟩ | ⟨⟨xs, hq⟩, q⟩
  · obtain ⟨its, rv, p, hz⟩ := I1.list hq
    refine wpAny_pyIter_list p.isList ?_
    refine ⟨s1.heap.objs.size, [s1.heap.objs.size], _, _, H1, rfl, I1.kept (t' := s1.toks) fun b o e => Heap.get?_push_of_some _ e, turn_list a _, ⟨_, Heap.get?_push_size _ rfl, rfl, rfl⟩, fun b hb => ?_, q⟩
    have e : b = s1.heap.objs.size := by simpa using hb
    subst e
    exact I1.fpOk (Nat.le_refl _) (I1.hok.fresh (Nat.le_refl _))
  · obtain ⟨its, rv, p, hz⟩ := I1.tuple hq
    refine wpAny_pyIter_tuple (show s1.heap.IsTuple a its.toArray from p) ?_
    refine ⟨s1.heap.objs.size, [s1.heap.objs.size], _, _, H1, rfl, I1.kept (t' := s1.toks) fun b o e => Heap.get?_push_of_some _ e, turn_tuple a _, ⟨_, Heap.get?_push_size _ rfl, rfl, rfl⟩, fun b hb => ?_, q⟩
    have e : b = s1.heap.objs.size := by simpa using hb
    subst e
    exact I1.fpOk (Nat.le_refl _) (I1.hok.fresh (Nat.le_refl _))
theorem OkI.opt {P : Addr → Prop} {σ : L2.St} {R : It → Hp → Prop} {H : Hp} {F : Fp} {o : Option (List D)} {ε : Sl} (h : OkI C P σ R H F (Cr.opt o ε)) (Re : RepE C.K C.G H σ ε F P) :
    ∃ ds, o = some ds ∧ ∀ J, Walks C.K J H (Own F P) ds → R J H := by
  cases o with
  | none => exact h.elim
  | some ds => exact ⟨ds, rfl, fun J w => h J H F Re Fr.refl w⟩
theorem ri_seq {m : M D} (hX : X.K = C.K) (h : PE X l (tE C m)) : PI X tg l (tI C (itE m)) := PI.mono (pi_seq h) fun σ H R ⟨ε, F, P, Re, q⟩ =>
  tE.imp (gE_bd OkI.stp Re q) fun v H1 ⟨d, ε1, F1, R1, y1, r1, h1⟩ => by
    obtain ⟨ds, e, k⟩ := OkI.opt h1 R1
    rw [hX]
    cases d with
    | lst xs =>
      cases e
      obtain ⟨a, vs, rfl, t, rl⟩ := r1
      exact ⟨a, rfl, .inl ⟨⟨vs, t.sq⟩, k _ (walks_list t rl)⟩⟩
    | tup xs =>
      cases e
      obtain ⟨a, vs, rfl, t, rl⟩ := r1
      exact ⟨a, rfl, .inr ⟨⟨vs, t.sq⟩, k _ (walks_tup t rl)⟩⟩
    | _ => cases e
theorem walks_range {K : PySem.W.Frag} {H : Hp} {O : Addr → Prop} {lo : Int} {n : Nat} : Walks K (Itr lo n) H O (rangeD lo n) := fun H1 O1 k g dm i => by
  unfold rangeD
  refine ⟨fun d hd => ?_, fun hn => ?_⟩
  · rw [List.getElem?_map] at hd
    cases e : (List.range n)[i]? with
    | none => rw [e] at hd; cases hd
    | some j =>
      rw [e] at hd
      obtain ⟨hi, ej⟩ := List.getElem?_eq_some_iff.mp e
      simp at hi
      have : j = i := by rw [← ej]; simp
      subst this
      have ed : D.int (lo + (j : Int)) = d := Option.some.inj hd
      subst ed
      exact ⟨hi, fun x H' ⟨e1, e2⟩ => by subst e1; exact ⟨fun _ _ h => h, e2⟩⟩
  · show n ≤ i
    simpa using hn
theorem ri_rng1 {a : Expr} {as : List Opd} {p pos : Pos} (hg : Gl X "range") (hm : X.mg "range" = none) (ha : PA X [a] (tAs C as)) (hs : starEach [a] X.env = [(false, eval a X.env)] := by rfl) : PI X tg (.Call (.Name "range" p) [a] [] pos) (tI C (itR rng1 as)) :=
  PI.mono (pi_range1 hg hm ha hs) fun σ H R ⟨ε, F, P, Re, q⟩ => tAs.imp _ (gopds OkI.stp Re q) fun vs H1 ⟨ds, ε1, F1, R1, y1, A, h1⟩ => by
    obtain ⟨xs, e, k⟩ := OkI.opt h1 R1
    have w := A.wl R1
    unfold rng1 at e
    split at e
    · rename_i n
      split at e
      · rename_i hn
        cases e
        cases w with
        | cons r1 w =>
          cases w
          have z : (2 : Int) ^ 62 = 4611686018427387904 := by decide
          exact ⟨n, by rw [show _ = V.int n from r1], by omega, by omega, k _ walks_range⟩
      · cases e
    · cases e
theorem ri_rng2 {a b : Expr} {as : List Opd} {p pos : Pos} (hg : Gl X "range") (hm : X.mg "range" = none) (ha : PA X [a, b] (tAs C as)) (hs : starEach [a, b] X.env = [(false, eval a X.env), (false, eval b X.env)] := by rfl) (hs2 : starEach [b] X.env = [(false, eval b X.env)] := by rfl) :
    PI X tg (.Call (.Name "range" p) [a, b] [] pos) (tI C (itR rng2 as)) :=
  PI.mono (pi_range2 hg hm ha hs hs2) fun σ H R ⟨ε, F, P, Re, q⟩ => tAs.imp _ (gopds OkI.stp Re q) fun vs H1 ⟨ds, ε1, F1, R1, y1, A, h1⟩ => by
    obtain ⟨xs, e, k⟩ := OkI.opt h1 R1
    have w := A.wl R1
    unfold rng2 at e
    split at e
    · rename_i lo hi
      split at e
      · rename_i hn
        cases e
        cases w with
        | cons r1 w =>
          cases w with
          | cons r2 w =>
            cases w
            have z : (2 : Int) ^ 62 = 4611686018427387904 := by decide
            exact ⟨lo, hi, by rw [show _ = V.int lo from r1, show _ = V.int hi from r2], ⟨by omega, by omega, by omega, by omega⟩, k _ walks_range⟩
      · cases e
    · cases e
end
/-! ### for, while -/
section
variable {C : Cc} {σ : L2.St} {H : Hp} {F : Fp} {P : Addr → Prop} {D : Ends}
theorem OkS.body {b L : S} {N : L2.St → Hp → Prop} {ε : Sl} (h : OkS C D P σ H F (bd b (fun f => match f with | .nx => L | .ct => L | .bk => Cr.nx | .rt r => pu (.rt r)) ε))
    (hN : ∀ e σ' H' F', RepE C.K C.G H' σ' e F' P → Fr F H F' H' → Pin C σ σ' → OkS C D P σ' H' F' (L e) → N σ' H') : OkS C { D with nx := N, ct := N, bk := D.nx } P σ H F (b ε) := by
  unfold bd at h
  cases e : b ε with
  | ok f e1 =>
    rw [e] at h
    cases f with
    | nx => exact fun σ' H' F' R y p => hN e1 σ' H' F' R y p (OkS.step h y p)
    | ct => exact fun σ' H' F' R y p => hN e1 σ' H' F' R y p (OkS.step h y p)
    | bk => exact h
    | rt d => exact h
  | exn c e1 => rw [e] at h; exact h
  | bad => rw [e] at h; exact h
variable {X : Cx} {pos : Pos} {tg iter test : Expr} {body : List Stmt} {it : M (List Cr.D)} {t : Tg} {b : S} {tm : M Bool}
theorem loop_run {J : It} {ds : List Cr.D} {ε : Sl} (R : RepE C.K C.G H σ ε F P) (w : Walks C.K J H (Own F P) ds) (h : OkS C D P σ H F (loop t b ds ε)) :
    ∃ W : Nat → Nat → L2.St → Hp → Prop, (∃ m, W 0 m σ H) ∧ ∀ i m σ H, W i m σ H →
      (J.stop i H ∧ D.nx σ H) ∨ (J.go i H ∧ ∃ N : L2.St → Hp → Prop, (∀ σ' H', N σ' H' → ∃ m', m' < m ∧ W (i + 1) m' σ' H') ∧ ∀ x H', J.yld i H x H' → tG C t x σ H' fun σ2 H2 => tS C b { D with nx := N, ct := N, bk := D.nx } σ2 H2) := by
  refine ⟨fun i m σ' H' => m = ds.length - i ∧ i ≤ ds.length ∧ ∃ e F', RepE C.K C.G H' σ' e F' P ∧ Fr F H F' H' ∧ Pin C σ σ' ∧ OkS C D P σ' H' F' (loop t b (ds.drop i) e), ⟨ds.length, by simp, Nat.zero_le _, ε, F, R, Fr.refl, Pin.refl, by simpa using h⟩, ?_⟩
  rintro i m σ1 H1 ⟨rfl, hi, e, F1, R1, y1, p1, q⟩
  have ww := w H1 (Own F1 P) y1.keeps y1.grows R1.dom i
  by_cases hlt : i < ds.length
  · have hd : ds[i]? = some ds[i] := List.getElem?_eq_getElem hlt
    obtain ⟨go, yl⟩ := ww.1 _ hd
    refine .inr ⟨go, fun σ' H' => ds.length - (i + 1) < ds.length - i ∧ i + 1 ≤ ds.length ∧ ∃ e F', RepE C.K C.G H' σ' e F' P ∧ Fr F H F' H' ∧ Pin C σ σ' ∧ OkS C D P σ' H' F' (loop t b (ds.drop (i + 1)) e),
      fun σ' H' n => ⟨ds.length - (i + 1), n.1, rfl, n.2⟩, fun x H' hy => ?_⟩
    obtain ⟨ext, r⟩ := yl x H' hy
    rw [List.drop_eq_getElem_cons hlt] at q
    refine ⟨ds[i], e, F1, P, R1.grow ext, r, ?_⟩
    unfold loop bd stT at q
    cases et : t ds[i] e with
    | none => simp only [et] at q; exact q.elim
    | some e1 =>
      simp only [et] at q
      refine ⟨e1, rfl, fun σ2 H2 F2 R2 y2 p2 => ⟨e1, F2, P, R2, ?_⟩⟩
      have y3 : Fr F1 H1 F2 H2 := (Fr.ext ext).trans y2
      refine OkS.body (OkS.step q y3 p2) fun e3 σ3 H3 F3 R3 y4 p4 q3 => ?_
      exact ⟨by omega, hlt, e3, F3, R3, (y1.trans y3).trans y4, (p1.trans p2).trans p4, q3⟩
  · have e0 : i = ds.length := by omega
    refine .inl ⟨ww.2 (by omega), ?_⟩
    rw [List.drop_of_length_le (by omega)] at q
    exact q σ1 H1 F1 R1 Fr.refl Pin.refl
theorem rs_for (hp : PassesOwn (model X.prog X.w) X.A X.env X.xe) (hc : X.calm = true) (hi : PI X tg iter (tI C it)) (hg : PG X tg (tG C t)) (hb : PSs X body (tS C b)) (hs : ∀ x, foldedSetIterable iter X.env x = pure x := by intro _; rfl) :
    PS X (.For tg iter body [] pos) (tS C (forS it t b)) := PS.mono (ps_for hp hc hi hg hb hs) fun D σ H ⟨ε, F, P, R, h⟩ => by
  refine ⟨ε, F, P, R, ?_⟩
  unfold forS bd at h
  cases e : it ε with
  | ok ds e1 =>
    rw [e] at h
    exact fun J H' F' R' y w => loop_run R' w (OkS.step h y Pin.refl)
  | exn c e1 => rw [e] at h; exact fun H' F' R' y => h σ H' F' R' y
  | bad => rw [e] at h; exact h
theorem rs_while {n : Nat} (hp : PassesOwn (model X.prog X.w) X.A X.env X.xe) (hc : PT X test (tT C tm)) (hb : PSs X body (tS C b)) : PS X (.While test body [] pos) (tS C (whileN n tm b)) := PS.mono (ps_while hp hc hb) fun D σ H ⟨ε, F, P, R, h⟩ => by
  refine ⟨fun m σ' H' => ∃ e F', RepE C.K C.G H' σ' e F' P ∧ Fr F H F' H' ∧ Pin C σ σ' ∧ OkS C D P σ' H' F' (whileN m tm b e), ⟨n, ε, F, R, Fr.refl, Pin.refl, h⟩, ?_⟩
  rintro m σ1 H1 ⟨e, F1, R1, y1, p1, q⟩
  cases m with
  | zero => exact q.elim
  | succ m =>
    unfold whileN at q
    refine tT.imp (gT_bd OkS.stp R1 q) fun k H2 ⟨e2, F2, R2, y2, h2⟩ => ?_
    cases k with
    | false => exact iteF (h2 σ1 H2 F2 R2 Fr.refl Pin.refl)
    | true =>
      refine iteT ⟨fun σ' H' => ∃ e F', RepE C.K C.G H' σ' e F' P ∧ Fr F H F' H' ∧ Pin C σ σ' ∧ OkS C D P σ' H' F' (whileN m tm b e), fun σ' H' n => ⟨m, Nat.lt_succ_self m, n⟩, e2, F2, P, R2, ?_⟩
      exact OkS.body h2 fun e3 σ3 H3 F3 R3 y3 p3 q3 => ⟨e3, F3, R3, (y1.trans y2).trans y3, p1.trans p3, q3⟩
end
/-! ### comprehensions -/
/-- the context of a comprehension's block -/
def Cc.blk (C : Cc) (vs : List Nat) : Cc := { C with W := fun _ _ _ => False, pin := fun i => !(vs.contains i) }
section
variable {K : PySem.W.Frag} {G : Nat → Md} {H : Hp} {σ σ' : L2.St} {ε ε' : Sl} {F : Fp} {P : Addr → Prop}
theorem RepE.unset (R : RepE K G H σ ε F P) {v : Nat} (hG : G v = .dat) : RepE K G H (σ.set v none) (ε.set v none) F P := by
  refine ⟨by simp [R.len], fun i d e => ?_, fun i no => ?_, R.sep, R.out, R.dom⟩
  · by_cases ei : i = v
    · subst ei
      by_cases hv : i < ε.length
      · rw [List.getElem?_set_self hv] at e; cases e
      · rw [List.getElem?_eq_none (by simp; omega)] at e; cases e
    · rw [List.getElem?_set_ne (Ne.symm ei)] at e
      obtain ⟨u, hu, r⟩ := R.val i d e
      exact ⟨u, by rw [List.getElem?_set_ne (Ne.symm ei)]; exact hu, r⟩
  · by_cases ei : i = v
    · subst ei
      by_cases z : ∃ d, ε[i]? = some (some d)
      · obtain ⟨d, hd⟩ := z
        obtain ⟨u, hu, r⟩ := R.val i d hd
        rw [hG] at r
        exact r.1
      · exact R.non i fun d hd => z ⟨d, hd⟩
    · refine R.non i fun d => ?_
      have := no d
      rwa [List.getElem?_set_ne (Ne.symm ei)] at this
theorem RepE.wipe (R : RepE K G H σ ε F P) : ∀ {vs : List Nat}, (∀ v ∈ vs, G v = .dat) → RepE K G H (L2.wipe σ vs) (wipeE ε vs) F P
  | [], _ => R
  | v :: vs, h => (RepE.wipe R fun u hu => h u (List.mem_cons_of_mem _ hu)).unset (h v List.mem_cons_self)
theorem wipe_get : ∀ {vs : List Nat} {σ : L2.St} {i : Nat}, i ∉ vs → (L2.wipe σ vs)[i]? = σ[i]?
  | [], _, _, _ => rfl
  | v :: vs, σ, i, h => by
    simp only [List.mem_cons, not_or] at h
    unfold L2.wipe
    rw [List.getElem?_set_ne (Ne.symm h.1), wipe_get h.2]
theorem wipe_len : ∀ {vs : List Nat} {σ : L2.St}, (L2.wipe σ vs).length = σ.length
  | [], _ => rfl
  | v :: vs, σ => by unfold L2.wipe; rw [List.length_set, wipe_len]
theorem wipe_in : ∀ {vs : List Nat} {σ : L2.St} {i : Nat}, i ∈ vs → i < σ.length → (L2.wipe σ vs)[i]? = some none
  | v :: vs, σ, i, h, hi => by
    unfold L2.wipe
    by_cases e : v = i
    · subst e
      exact List.getElem?_set_self (by rw [wipe_len]; exact hi)
    · rw [List.getElem?_set_ne e]
      simp only [List.mem_cons] at h
      exact wipe_in (h.resolve_left (Ne.symm e)) hi
theorem wipe_ext {vs : List Nat} {σ σ' : L2.St} (hl : σ'.length = σ.length) (h : ∀ i, i ∉ vs → σ'[i]? = σ[i]?) : L2.wipe σ' vs = L2.wipe σ vs := by
  apply List.ext_getElem?
  intro i
  by_cases m : i ∈ vs
  · by_cases hi : i < σ.length
    · rw [wipe_in m hi, wipe_in m (by omega)]
    · rw [List.getElem?_eq_none (by rw [wipe_len]; omega), List.getElem?_eq_none (by rw [wipe_len]; omega)]
  · rw [wipe_get m, wipe_get m, h i m]
theorem wipe_wipe {vs : List Nat} {σ : L2.St} : L2.wipe (L2.wipe σ vs) vs = L2.wipe σ vs := wipe_ext wipe_len fun i m => wipe_get m
theorem wipeE_get : ∀ {vs : List Nat} {σ : Sl} {i : Nat}, i ∉ vs → (wipeE σ vs)[i]? = σ[i]?
  | [], _, _, _ => rfl
  | v :: vs, σ, i, h => by
    simp only [List.mem_cons, not_or] at h
    unfold wipeE
    rw [List.getElem?_set_ne (Ne.symm h.1), wipeE_get h.2]
theorem wipeE_len : ∀ {vs : List Nat} {σ : Sl}, (wipeE σ vs).length = σ.length
  | [], _ => rfl
  | v :: vs, σ => by unfold wipeE; rw [List.length_set, wipeE_len]
theorem restE_len : ∀ {vs : List Nat} {e0 σ : Sl}, (restE e0 σ vs).length = σ.length
  | [], _, _ => rfl
  | v :: vs, e0, σ => by unfold restE; rw [List.length_set, restE_len]
theorem restE_get : ∀ {vs : List Nat} {e0 σ : Sl} {i : Nat}, i ∉ vs → (restE e0 σ vs)[i]? = σ[i]?
  | [], _, _, _, _ => rfl
  | v :: vs, e0, σ, i, h => by
    simp only [List.mem_cons, not_or] at h
    unfold restE
    rw [List.getElem?_set_ne (Ne.symm h.1), restE_get h.2]
theorem restE_in : ∀ {vs : List Nat} {e0 σ : Sl} {i : Nat}, i ∈ vs → i < σ.length → (restE e0 σ vs)[i]? = some (e0[i]?.getD none)
  | v :: vs, e0, σ, i, h, hi => by
    unfold restE
    by_cases e : v = i
    · subst e
      exact List.getElem?_set_self (by rw [restE_len]; exact hi)
    · rw [List.getElem?_set_ne e]
      simp only [List.mem_cons] at h
      exact restE_in (h.resolve_left (Ne.symm e)) hi
/-- behind the block: its own slots as they were, the others as they are -/
theorem RepE.rest {H' : Hp} {F' : Fp} {P' : Addr → Prop} {e0 e : Sl} {vs : List Nat} (R0 : RepE K G H σ e0 F P) (R : RepE K G H' (L2.wipe σ vs) (wipeE e vs) F' P') (y : Fr F H F' H') (hG : ∀ v ∈ vs, G v = .dat)
    (hP : ∀ a, P' a → P a ∨ H a = none) : RepE K G H' σ (restE e0 e vs) F' P' := by
  have hl : e.length = σ.length := by
    have := R.len
    rwa [wipe_len, wipeE_len] at this
  have g : Grows (Own F P) (Own F' P') H := fun a z => by
    rcases z with z | ⟨i, z⟩
    · exact (hP a z).elim (fun z => .inl (.inl z)) .inr
    · exact (y.grow i a z).elim (fun z => .inl (.inr z)) .inr
  refine ⟨by rw [restE_len, hl], fun i d q => ?_, fun i no => ?_, R.sep, R.out, R.dom⟩
  · by_cases m : i ∈ vs
    · have hi : i < e.length := by
        apply Classical.byContradiction
        intro n
        rw [List.getElem?_eq_none (by rw [restE_len]; omega)] at q
        cases q
      rw [restE_in m hi] at q
      have q' : e0[i]? = some (some d) := by
        cases z : e0[i]? with
        | none => rw [z] at q; cases q
        | some w => rw [z] at q; simp at q; rw [q]
      obtain ⟨v, hv, r⟩ := R0.val i d q'
      rw [hG i m] at r
      refine ⟨v, hv, ?_⟩
      rw [hG i m]
      have fe : F' i = [] := by
        refine R.non i fun d' z => ?_
        have : (wipeE e vs)[i]? = some none := by
          have hm : ∀ (vs : List Nat) (i : Nat), i ∈ vs → i < e.length → (wipeE e vs)[i]? = some none := by
            intro vs
            induction vs with
            | nil => intro i h _; cases h
            | cons v vs ih =>
              intro i h hi
              unfold wipeE
              by_cases ev : v = i
              · subst ev
                exact List.getElem?_set_self (by rw [wipeE_len]; exact hi)
              · rw [List.getElem?_set_ne ev]
                simp only [List.mem_cons] at h
                exact ih i (h.resolve_left (Ne.symm ev)) hi
          exact hm vs i m hi
        rw [this] at z
        cases z
      exact ⟨fe, Rep.move (fun a o h n => y.keep a o h fun i hi => n (.inr ⟨i, hi⟩)) g _ _ r.2⟩
    · rw [restE_get m] at q
      obtain ⟨v, hv, r⟩ := R.val i d (by rw [wipeE_get m]; exact q)
      rw [wipe_get m] at hv
      exact ⟨v, hv, r⟩
  · by_cases m : i ∈ vs
    · by_cases z : ∃ d, (wipeE e vs)[i]? = some (some d)
      · obtain ⟨d, hd⟩ := z
        obtain ⟨v, hv, r⟩ := R.val i d hd
        rw [hG i m] at r
        exact r.1
      · exact R.non i fun d hd => z ⟨d, hd⟩
    · refine R.non i fun d => ?_
      have := no d
      rwa [restE_get m, ← wipeE_get (vs := vs) m] at this
end
end Lk

end
section
set_option maxRecDepth 100000
set_option maxHeartbeats 4000000
/-! Lk8: list comprehensions; a def by its body. -/
namespace Lk
open PySem PySem.Spec PyProof.Rows L2 Cr
section
variable {K : PySem.W.Frag} {G : Nat → Md} {H : Hp} {σ : L2.St} {ε : Sl} {F : Fp} {P : Addr → Prop}
/-- what is kept apart may change -/
theorem keeps_upd {O : Addr → Prop} {p : Addr} {o : HO} (h : O p) : Keeps O H (upd H p o) := fun a u e n => by
  rw [upd_ne fun z => n (by rw [z]; exact h)]
  exact e
theorem RepE.mutP (R : RepE K G H σ ε F P) {p : Addr} {o : HO} (hp : P p) : RepE K G (upd H p o) σ ε F P := by
  refine ⟨R.len, fun i d e => ?_, R.non, R.sep, R.out, fun a z => ?_⟩
  · obtain ⟨v, hv, r⟩ := R.val i d e
    exact ⟨v, hv, r.move (keeps_upd (.inl hp)) (fun a z => .inl z) fun a ha u hu => by
      rw [upd_ne fun z => R.out i a ha (by rw [z]; exact hp)]
      exact hu⟩
  · by_cases e : a = p
    · rw [e, upd_same]; intro z; cases z
    · rw [upd_ne e]; exact R.dom a z
theorem Fr.mut {F' : Fp} {H' : Hp} {p : Addr} {o : HO} (y : Fr F H F' H') (hp : H p = none) : Fr F H F' (upd H' p o) :=
  ⟨fun a u e n => by rw [upd_ne (ne_of_none e hp)]; exact y.keep a u e n, y.grow, fun a n => by
    by_cases e : a = p
    · rw [e, upd_same]; intro z; cases z
    · rw [upd_ne e]; exact y.live a n⟩
end
theorem wipeE_wipeE : ∀ {vs : List Nat} {e : Sl}, wipeE (wipeE e vs) vs = wipeE e vs := by
  intro vs e
  apply List.ext_getElem?
  intro i
  have hm : ∀ (vs : List Nat) (e : Sl) (i : Nat), i ∈ vs → (wipeE e vs)[i]? = if i < e.length then some none else none := by
    intro vs
    induction vs with
    | nil => intro e i h; cases h
    | cons v vs ih =>
      intro e i h
      unfold wipeE
      by_cases ev : v = i
      · subst ev
        by_cases hi : v < e.length
        · rw [if_pos hi, List.getElem?_set_self (by rw [wipeE_len]; exact hi)]
        · rw [if_neg hi, List.getElem?_eq_none (by rw [List.length_set, wipeE_len]; omega)]
      · rw [List.getElem?_set_ne ev]
        simp only [List.mem_cons] at h
        exact ih e i (h.resolve_left (Ne.symm ev))
  by_cases m : i ∈ vs
  · rw [hm vs _ i m, hm vs _ i m, wipeE_len]
  · rw [wipeE_get m]
section
variable {X : Cx} {C : Cc} {elt tg iter : Expr} {ifs : List Expr} {scope : Scope} {own : List (Str × Nat)} {pos : Pos} {it : M (List D)} {t : Tg} {c : M Bool} {x : M D} {vs : List Nat}
theorem rts_nil {X : Cx} {C : Cc} : PTs X [] (tT C (pu true)) := ⟨fun pins s σ H Q I ⟨ε, F, P, R, h⟩ => pts_nil.run pins s σ H Q I (h H F R Fr.refl)⟩
theorem rts_one {X : Cx} {C : Cc} {e : Expr} (h : PT X e (tT C c)) : PTs X [e] (tT C c) := pts_one h
theorem compL_cons {d : D} {ds acc : List D} {e : Sl} {ys : List D} {e2 : Sl} (h : compL vs t c x (d :: ds) acc e = .ok ys e2) :
    ∃ e3 b e4, t d (wipeE e vs) = some e3 ∧ c e3 = .ok b e4 ∧ ((b = false ∧ compL vs t c x ds acc e4 = .ok ys e2) ∨ ∃ y e5, b = true ∧ x e4 = .ok y e5 ∧ compL vs t c x ds (acc ++ [y]) e5 = .ok ys e2) := by
  unfold compL at h
  simp only [bd, stT] at h
  cases e1 : t d (wipeE e vs) with
  | none => rw [e1] at h; cases h
  | some e3 =>
    rw [e1] at h
    simp only at h
    cases e6 : c e3 with
    | exn c' e' => rw [e6] at h; cases h
    | bad => rw [e6] at h; cases h
    | ok b e4 =>
      rw [e6] at h
      simp only at h
      refine ⟨e3, b, e4, rfl, e6, ?_⟩
      cases b with
      | false => exact .inl ⟨rfl, by simpa using h⟩
      | true =>
        simp only [if_true, bd] at h
        cases e7 : x e4 with
        | exn c' e' => rw [e7] at h; cases h
        | bad => rw [e7] at h; cases h
        | ok y e5 => rw [e7] at h; exact .inr ⟨y, e5, rfl, rfl, h⟩
theorem lc_run (hG : ∀ v ∈ vs, C.G v = .dat) {σ : L2.St} {H : Hp} {Q : VK} (h : tF C .ol (lcE vs it t c x) σ H Q) : tLc (tI C it) (tG (C.blk vs) t) (tT (C.blk vs) c) (tE (C.blk vs) x) vs σ H Q := by
  obtain ⟨ε, F, P, R, h⟩ := h
  refine ⟨ε, F, P, R, ?_⟩
  unfold lcE bd at h
  cases e : it ε with
  | exn k e1 => rw [e] at h; exact h
  | bad => rw [e] at h; exact h
  | ok ds e1 =>
    rw [e] at h
    intro J H1 F1 R1 y1 w D hD
    have h1 := OkF.stp.step _ _ _ _ _ h y1
    clear h
    cases ec : compL vs t c x ds [] e1 with
    | exn k e2 => simp only [ec] at h1; exact h1.elim
    | bad => simp only [ec] at h1; exact h1.elim
    | ok ys e2 =>
    simp only [ec] at h1
    by_cases hz : ds.length ≤ 1000000
    case neg => rw [if_neg hz] at h1; exact h1.elim
    rw [if_pos hz] at h1
    let P' : Addr → Prop := fun a => P a ∨ a ∈ [D]
    have hP' : P' D := .inr (List.mem_singleton.mpr rfl)
    have gP : ∀ a, P' a → P a ∨ H1 a = none := fun a z => z.elim .inl fun z => .inr (by rw [List.mem_singleton.mp z]; exact hD)
    have R2 : RepE C.K C.G (upd H1 D (.lst [])) σ e1 F1 P' := R1.ext (same_upd hD) fun a z => z.elim .inl fun z => .inr (by
      rw [List.mem_singleton.mp z]
      exact ⟨hD, by rw [upd_same]; intro z; cases z⟩)
    refine ⟨fun i m H' => m = ds.length - i ∧ i ≤ ds.length ∧ ∃ e F' acc us, RepE C.K C.G H' (L2.wipe σ vs) (wipeE e vs) F' P' ∧ Fr F1 H1 F' H' ∧ H' D = some (.lst us) ∧ RepL C.K (Own F' P') H' acc us ∧ us.length ≤ i ∧ compL vs t c x (ds.drop i) acc e = .ok ys e2,
      ⟨ds.length, by simp, Nat.zero_le _, e1, F1, [], [], R2.wipe hG, Fr.ext (same_upd hD), upd_same, rfl, Nat.le_refl _, by simpa using ec⟩, ?_⟩
    rintro i m H2 ⟨rfl, hi, e3, F2, acc, us, R3, y2, hU, hL, hu, hcp⟩
    have g2 : Grows (Own F1 P) (Own F2 P') H1 := fun a z => by
      rcases z with z | ⟨i, z⟩
      · exact (gP a z).elim (fun z => .inl (.inl z)) .inr
      · exact (y2.grow i a z).elim (fun z => .inl (.inr z)) .inr
    have ww := w H2 (Own F2 P') y2.keeps g2 R3.dom i
    by_cases hlt : i < ds.length
    · have hd : ds[i]? = some ds[i] := List.getElem?_eq_getElem hlt
      obtain ⟨go, yl⟩ := ww.1 _ hd
      refine .inr ⟨go, fun H' => ds.length - (i + 1) < ds.length - i ∧ i + 1 ≤ ds.length ∧ ∃ e F' acc us, RepE C.K C.G H' (L2.wipe σ vs) (wipeE e vs) F' P' ∧ Fr F1 H1 F' H' ∧ H' D = some (.lst us) ∧ RepL C.K (Own F' P') H' acc us ∧ us.length ≤ i + 1 ∧ compL vs t c x (ds.drop (i + 1)) acc e = .ok ys e2,
        fun H' n => ⟨ds.length - (i + 1), n.1, rfl, n.2⟩, fun v H3 hy => ?_⟩
      obtain ⟨ext, r⟩ := yl v H3 hy
      rw [List.drop_eq_getElem_cons hlt] at hcp
      obtain ⟨e4, b, e5, q1, q2, q3⟩ := compL_cons hcp
      refine ⟨ds[i], wipeE e3 vs, F2, P', R3.grow ext, r, e4, q1, fun σ4 H4 F4 R4 y4 p4 => ?_⟩
      have nD : ∀ i, D ∉ F2 i := fun i z => R3.out i D z hP'
      have nD4 : ∀ i, D ∉ F4 i := fun i z => R4.out i D z hP'
      have hU3 : H3 D = some (.lst us) := ext D _ hU
      have hU4 : H4 D = some (.lst us) := y4.keep D _ hU3 nD
      have y04 : Fr F1 H1 F4 H4 := (y2.trans (Fr.ext ext)).trans y4
      have y24 : Fr F2 H2 F4 H4 := (Fr.ext ext).trans y4
      have wq : L2.wipe σ4 vs = L2.wipe σ vs := by
        rw [wipe_ext (σ := L2.wipe σ vs) p4.1 fun i m => p4.2 i (by simp [Cc.blk, m]), wipe_wipe]
      refine ⟨wq, e4, F4, P', R4, ?_⟩
      rw [q2]
      intro H5 F5 R5 y5
      have y05 := y04.trans y5
      have y25 := y24.trans y5
      have hU5 : H5 D = some (.lst us) := y5.keep D _ hU4 nD4
      have nD5 : ∀ i, D ∉ F5 i := fun i z => R5.out i D z hP'
      rcases q3 with ⟨rfl, q3⟩ | ⟨y, e6, rfl, q4, q3⟩
      · refine iteF ⟨by omega, hlt, e5, F5, acc, us, ?_, y05, hU5, y25.repL hL, by omega, q3⟩
        have := RepE.wipe (vs := vs) R5 hG
        rwa [wq] at this
      · refine iteT ⟨e5, F5, P', R5, ?_⟩
        rw [q4]
        intro H6 F6 R6 y6 u ru
        have hU6 : H6 D = some (.lst us) := y6.keep D _ hU5 nD5
        refine ⟨us, hU6, Nat.lt_of_le_of_lt (show us.length ≤ 1000000 by omega) (by decide), by omega, hlt, e6, F6, acc ++ [y], us ++ [u], ?_, (y05.trans y6).mut hD, upd_same, ?_, by simp; omega, q3⟩
        · have := RepE.wipe (vs := vs) (RepE.mutP (o := .lst (us ++ [u])) R6 hP') hG
          rwa [wq] at this
        · exact RepL.append (RepL.move (keeps_upd (.inl hP')) (fun a z => .inl z) _ _ ((y25.trans y6).repL hL)) (RepL.one (Rep.move (keeps_upd (.inl hP')) (fun a z => .inl z) _ _ ru))
    · refine .inl ⟨ww.2 (by omega), ?_⟩
      rw [List.drop_of_length_le (by omega)] at hcp
      cases hcp
      exact h1 (.ref D) H2 F2 [D] (RepE.rest R1 R3 y2 hG gP) y2 (fun a ha => by rw [List.mem_singleton.mp ha]; exact hD) ⟨D, us, _, rfl, rfl, rfl, hU, hL⟩
theorem rf_lc (hc : X.calm = true) (hN : X.N.Nodup) (hi : PI X tg iter (tI C it)) (ok : BlkOk X.N X.env.scope scope own) (hv : own.map (·.2) = vs) (hG : ∀ v ∈ vs, C.G v = .dat)
    (hg : ∀ (s : Shared) (H : Hp) (L : Addr) (cl : List (Str × Addr)) (fp : List Addr), PG (X.blk s H scope (compEnvC scope cl L X.env) fp) tg (tG (C.blk vs) t))
    (ht : ∀ (s : Shared) (H : Hp) (L : Addr) (cl : List (Str × Addr)) (fp : List Addr), PTs (X.blk s H scope (compEnvC scope cl L X.env) fp) ifs (tT (C.blk vs) c))
    (he : ∀ (s : Shared) (H : Hp) (L : Addr) (cl : List (Str × Addr)) (fp : List Addr), PE (X.blk s H scope (compEnvC scope cl L X.env) fp) elt (tE (C.blk vs) x))
    (hs : ∀ x, foldedSetIterable iter X.env x = pure x := by intro _; rfl) : PE X (.ListComp elt [⟨tg, iter, ifs, 0⟩] scope pos) (tF C .ol (lcE vs it t c x)) :=
  PE.mono (pe_lc hc hN hi ok hg ht he hs) fun σ H Q h => by rw [hv]; exact lc_run hG h
/-- y = [..] on one line -/
theorem rs_setLc {i : Nat} {y : Str} {py spos : Pos} (hc : X.calm = true) (hN : X.N.Nodup) (hy : X.N[i]? = some y) (hyl : X.env.scope.names.lookup y = some .local) (hsw : swapsWith (.ListComp elt [⟨tg, iter, ifs, 0⟩] scope pos) (some (.Name y py)) spos.line X.env = pure true)
    (hi : PI X tg iter (tI C it)) (ok : BlkOk X.N X.env.scope scope own) (hv : own.map (·.2) = vs) (hG : ∀ v ∈ vs, C.G v = .dat)
    (hg : ∀ (s : Shared) (H : Hp) (L : Addr) (cl : List (Str × Addr)) (fp : List Addr), PG (X.blk s H scope (compEnvC scope cl L X.env) fp) tg (tG (C.blk vs) t))
    (ht : ∀ (s : Shared) (H : Hp) (L : Addr) (cl : List (Str × Addr)) (fp : List Addr), PTs (X.blk s H scope (compEnvC scope cl L X.env) fp) ifs (tT (C.blk vs) c))
    (he : ∀ (s : Shared) (H : Hp) (L : Addr) (cl : List (Str × Addr)) (fp : List Addr), PE (X.blk s H scope (compEnvC scope cl L X.env) fp) elt (tE (C.blk vs) x))
    (hs : ∀ x, foldedSetIterable iter X.env x = pure x := by intro _; rfl) : PS X (.Assign [.Name y py] (.ListComp elt [⟨tg, iter, ifs, 0⟩] scope pos) spos) (tAsg (tF C .ol (lcE vs it t c x)) (gName i)) :=
  PS.mono (ps_setLc hc hN hy hyl hsw hi ok hg ht he hs) fun D σ H h => by rw [hv]; exact lc_run hG h
theorem asg_fe {st : Stmt} {md : Md} {m : M D} {g : TG} (h : PS X st (tAsg (tF C md m) g)) : PS X st (tAsg (tE C m) g) := PS.mono h fun D σ H h => fe_run h
theorem all_dat {G : Nat → Md} {vs : List Nat} (h : vs.all (fun v => decide (G v = .dat)) = true) : ∀ v ∈ vs, G v = .dat := fun v hv => of_decide_eq_true (List.all_eq_true.mp h v hv)
end

/-! ### a def -/
theorem finM_ok : ∀ {own : List Bool} {ds : List D} {e : Sl} {r : List D}, finM own ds e = some r → own.length = ds.length ∧ r.length = ds.length ∧ ∀ (i : Nat), (own[i]? = some true → ∃ x, r[i]? = some x ∧ e[i]? = some (some x)) ∧ (own[i]? = some false → r[i]? = ds[i]?)
  | [], [], e, r, h => by
    simp only [finM] at h
    cases h
    exact ⟨rfl, rfl, fun i => ⟨fun z => by simp at z, fun z => by simp at z⟩⟩
  | [], _ :: _, _, _, h => by simp [finM] at h
  | _ :: _, [], _, _, h => by simp [finM] at h
  | _ :: _, _ :: _, [], _, h => by simp [finM] at h
  | o :: os, d :: ds, s :: e, r, h => by
    simp only [finM] at h
    cases o with
    | true =>
      simp only [if_true] at h
      cases s with
      | none => cases h
      | some x =>
        simp only [Option.map_eq_some_iff] at h
        obtain ⟨r', h1, rfl⟩ := h
        obtain ⟨a, b, c⟩ := finM_ok h1
        refine ⟨by simp [a], by simp [b], fun i => ?_⟩
        cases i with
        | zero => exact ⟨fun _ => ⟨x, rfl, rfl⟩, fun z => by simp at z⟩
        | succ i => simpa using c i
    | false =>
      simp only [Bool.false_eq_true, if_false, Option.map_eq_some_iff] at h
      obtain ⟨r', h1, rfl⟩ := h
      obtain ⟨a, b, c⟩ := finM_ok h1
      refine ⟨by simp [a], by simp [b], fun i => ?_⟩
      cases i with
      | zero => exact ⟨fun z => by simp at z, fun _ => rfl⟩
      | succ i => simpa using c i
def ownB (pm : List Md) : List Bool := pm.map fun m => decide (m ≠ .dat)
/-- the context of a def's body: E the wish about what is raised -/
def cc (K : PySem.W.Frag) (cl : Nat → Addr) (pm gs : List Md) (rm : Md) (E : XK) : Cc :=
  { K := K, G := gm gs, W := fun c _ H => E (.ref (cl c)) none H, pin := fun i => (ownB pm)[i]?.getD false, rm := rm }
section
variable {K : PySem.W.Frag} {cl : Nat → Addr} {pm gs : List Md} {rm : Md} {E : XK} {H : Hp} {vs : List V} {ds : List D} {F : Fp} {P : Addr → Prop} {n : Nat}
theorem gm_pre (hg : gs.take pm.length = pm) {i : Nat} (hi : i < pm.length) : gm gs i = gm pm i := by
  unfold gm
  rw [← hg, List.getElem?_take_of_lt hi]
/-- the start -/
theorem start_ok (R : RepE K (gm pm) H (vs.map some) (ds.map some) F P) (hl : vs.length = pm.length) (hg : gs.take pm.length = pm) {N : List Str} (hN : pm.length ≤ N.length) :
    RepE K (gm gs) H (L2.start N vs) (ds.map some ++ List.replicate (N.length - ds.length) none) F P := by
  have hd : ds.length = vs.length := by have := R.len; simpa using this
  unfold L2.start
  refine ⟨by simp [hd], fun i d e => ?_, fun i no => ?_, R.sep, R.out, R.dom⟩
  · by_cases hi : i < ds.length
    · rw [List.getElem?_append_left (by simpa using hi)] at e
      obtain ⟨v, hv, r⟩ := R.val i d e
      refine ⟨v, ?_, ?_⟩
      · rw [List.getElem?_append_left (by rw [List.length_map]; omega)]
        exact hv
      · rw [gm_pre hg (by omega)]
        exact r
    · rw [List.getElem?_append_right (by simpa using hi), List.getElem?_replicate] at e
      split at e <;> cases e
  · by_cases hi : i < ds.length
    · refine R.non i fun d z => ?_
      have := no d
      rw [List.getElem?_append_left (by simpa using hi)] at this
      exact this z
    · exact R.non i fun d z => by
        rw [List.getElem?_eq_none (by simpa using hi)] at z
        cases z
/-- what the parameters own at the end -/
def Fe (pm : List Md) (F' : Fp) : Fp := fun i => if (ownB pm)[i]?.getD false = true then F' i else []
theorem own_gm {i : Nat} (h : (ownB pm)[i]?.getD false = false) : gm pm i = .dat := by
  unfold ownB at h
  unfold gm
  rw [List.getElem?_map] at h
  cases e : pm[i]? with
  | none => rfl
  | some m =>
    rw [e] at h
    simp at h
    simpa using h
theorem own_gm' {i : Nat} (h : (ownB pm)[i]?.getD false = true) : gm pm i ≠ .dat ∧ i < pm.length ∧ (ownB pm)[i]? = some true := by
  have hi : i < pm.length := by
    apply Classical.byContradiction
    intro z
    unfold ownB at h
    rw [List.getElem?_map, List.getElem?_eq_none (by omega)] at h
    cases h
  unfold ownB at h ⊢
  unfold gm
  rw [List.getElem?_map] at h ⊢
  rw [List.getElem?_eq_getElem hi] at h ⊢
  simp at h
  simp [h, hi]
/-- the end: what the parameters hold -/
theorem end_ok {σ' : L2.St} {e : Sl} {H' : Hp} {F' : Fp} {P' : Addr → Prop} {r : List D} {N : List Str} (R : RepE K (gm pm) H (vs.map some) (ds.map some) F P) (hl : vs.length = pm.length) (hg : gs.take pm.length = pm)
    (R' : RepE K (gm gs) H' σ' e F' P') (y : Fr F H F' H') (hp : ∀ (i : Nat), (ownB pm)[i]?.getD false = true → σ'[i]? = (L2.start N vs)[i]?) (hr : finM (ownB pm) ds e = some r) (hP : ∀ a, P' a → P a ∨ (∃ j, a ∈ F j) ∨ H a = none) :
    RepE K (gm pm) H' (vs.map some) (r.map some) (Fe pm F') P' ∧ Fr F H (Fe pm F') H' ∧ ∀ a, Own (Fe pm F') P' a → Own F' P' a := by
  obtain ⟨l1, l2, l3⟩ := finM_ok hr
  have hd : ds.length = vs.length := by have := R.len; simpa using this
  have down : ∀ a, Own (Fe pm F') P' a → Own F' P' a := by
    rintro a (z | ⟨i, z⟩)
    · exact .inl z
    · unfold Fe at z
      split at z
      · exact .inr ⟨i, z⟩
      · cases z
  have fr : Fr F H (Fe pm F') H' := ⟨y.keep, fun i a z => by
    unfold Fe at z
    by_cases q : (ownB pm)[i]?.getD false = true
    · rw [if_pos q] at z
      exact y.grow i a z
    · rw [if_neg q] at z
      exact (List.not_mem_nil z).elim, y.live⟩
  have inF : ∀ {i : Nat} {a : Addr}, a ∈ Fe pm F' i → (ownB pm)[i]?.getD false = true ∧ a ∈ F' i := fun {i a} z => by
    unfold Fe at z
    split at z
    · rename_i h; exact ⟨h, z⟩
    · cases z
  refine ⟨⟨by simp [l2, hd], fun i d q => ?_, fun i no => ?_, fun i j a h h' => R'.sep i j a (inF h).2 (inF h').2, fun i a h => R'.out i a (inF h).2, fun a z => R'.dom a (down a z)⟩, fr, down⟩
  · have q' : r[i]? = some d := by
      rw [List.getElem?_map] at q
      cases z : r[i]? with
      | none => rw [z] at q; cases q
      | some w => rw [z] at q; simp at q; rw [q]
    have hi : i < vs.length := by
      have := (List.getElem?_eq_some_iff.mp q').1
      omega
    cases ho : (ownB pm)[i]?.getD false with
    | true =>
      obtain ⟨g1, g2, g3⟩ := own_gm' ho
      obtain ⟨x, hx, ex⟩ := (l3 i).1 g3
      rw [q'] at hx
      cases hx
      obtain ⟨v, hv, rr⟩ := R'.val i d ex
      rw [hp i ho] at hv
      unfold L2.start at hv
      rw [List.getElem?_append_left (by simpa using hi)] at hv
      refine ⟨v, hv, ?_⟩
      have : Fe pm F' i = F' i := by unfold Fe; rw [if_pos ho]
      rw [this, ← gm_pre hg g2]
      exact rr.move Keeps.rfl' (fun a z => .inl (down a z)) fun _ _ _ h => h
    | false =>
      have gd := own_gm ho
      have ho' : (ownB pm)[i]? = some false := by
        have hi' : i < (ownB pm).length := by unfold ownB; simp; omega
        rw [List.getElem?_eq_getElem hi'] at ho ⊢
        simpa using ho
      rw [(l3 i).2 ho'] at q'
      obtain ⟨v, hv, rr⟩ := R.val i d (by rw [List.getElem?_map, q']; rfl)
      refine ⟨v, hv, ?_⟩
      rw [gd] at rr ⊢
      have : Fe pm F' i = [] := by unfold Fe; rw [if_neg (by rw [ho]; decide)]
      rw [this]
      refine ⟨rfl, Rep.move (fun a o h n => y.keep a o h fun i hi => n (.inr ⟨i, hi⟩)) (fun a z => ?_) _ _ rr.2⟩
      rcases z with z | ⟨j, z⟩
      · rcases hP a z with z | z | z
        · exact .inl (.inl z)
        · exact .inl (.inr z)
        · exact .inr z
      · rcases fr.grow j a z with z | z
        · exact .inl (.inr z)
        · exact .inr z
  · unfold Fe
    split
    · rename_i ho
      obtain ⟨g1, g2, g3⟩ := own_gm' ho
      obtain ⟨x, hx, ex⟩ := (l3 i).1 g3
      exact absurd (by rw [List.getElem?_map, hx]; rfl) (no x)
    · rfl
/-- a slot's own list is at one place -/
theorem ol_one {O : Addr → Prop} {md : Md} {d : D} {v : V} {fp : List Addr} (r : RepM K O H md d v fp) (h : md ≠ .dat) : ∃ a, v = .ref a ∧ a ∈ fp := by
  cases md with
  | dat => exact absurd rfl h
  | ol =>
    obtain ⟨a, _, _, _, rfl, rfl, _, _⟩ := r
    exact ⟨a, rfl, List.mem_singleton.mpr rfl⟩
theorem ol_all {O : Addr → Prop} {md : Md} {d : D} {v : V} {fp : List Addr} (r : RepM K O H md d v fp) : ∀ a ∈ fp, v = .ref a := by
  cases md with
  | dat => rw [r.1]; intro a h; cases h
  | ol =>
    obtain ⟨a, _, _, _, rfl, rfl, _, _⟩ := r
    intro b hb
    rw [List.mem_singleton.mp hb]
end
section
variable {K : PySem.W.Frag} {P : Program} {w : World} {mg : Str → Option Value} {base : Heap} {cl : Nat → Addr}
/-- a def by its body -/
theorem ok_def {x qual : Str} {st : Stmt} {f : Addr} {fd : FuncData} {N ps : List Str} {k : Nat} {pm gs : List Md} {rm : Md} {body : S} {fall : Bool} (Fd : FunD K x qual (defArgs st) (defBody st) (defScope st) [] [] f fd) (Sc : FnScope N ps (defScope st)) (hl : pm.length = ps.length) (hN : pm.length ≤ N.length) (hg : gs.take pm.length = pm)
    (hf : fall = true → rm = .dat)
    (hbody : ∀ (cdv : Value) (A : Around) (outer : List PySem.Env) (s : Shared) (H : Hp) (E : XK), Room k (A.deeper (envOfC qual (defScope st) s.heap.objs.size f cdv)) →
      PSs (cxOf (L2.CX P w) P w K mg base N qual (defScope st) f cdv A outer s H E) (defBody st) (tS (cc K cl pm gs rm E) body)) : FnOk P w K mg base (L2.CX P w) (k + 1) f fd ps (spF K pm rm cl (fnOf (ownB pm) fall N.length body)) := by
  refine Fd.ok Sc (fun vs H Q E h => (spF_len h).trans hl) fun cdv A outer s H vs Q E hr h => ⟨_, hbody cdv A outer s H E hr, ?_⟩
  obtain ⟨ds, F, Pp, R, hv, h⟩ := h
  have R0 := start_ok (gs := gs) R hv hg hN
  refine ⟨_, F, Pp, R0, ?_⟩
  unfold fnOf at h
  cases eb : body (ds.map some ++ List.replicate (N.length - ds.length) none) with
  | bad => simp only [eb] at h
  | exn c e =>
    simp only [eb] at h
    exact fun σ' H' F' R' y => h.2 H' fun a o q => y.keep a o q fun i z => by rw [h.1 i] at z; cases z
  | ok fl e =>
    cases fl with
    | bk => simp only [eb] at h
    | ct => simp only [eb] at h
    | nx =>
      simp only [eb] at h
      intro σ' H' F' R' y p
      cases er : finM (ownB pm) ds e with
      | none => simp only [er] at h
      | some r =>
        simp only [er] at h
        cases fall with
        | false => simp at h
        | true =>
          simp only [if_true] at h
          obtain ⟨a1, a2, a3⟩ := end_ok (N := N) R hv hg R' y p.2 er fun a z => .inl z
          exact h .non H' (Fe pm F') [] a1.nilP a2 (fun a z => by cases z) (by rw [hf rfl]; exact ⟨rfl, rfl⟩)
    | rt d =>
      simp only [eb] at h
      intro v σ' H' F' fp R' y p n rr
      cases er : finM (ownB pm) ds e with
      | none => simp only [er] at h
      | some r =>
        simp only [er] at h
        have nF : ∀ a ∈ fp, ¬ ∃ j, a ∈ F j := fun a ha ⟨j, hj⟩ => by
          have hjd : ∃ d0, (ds.map some)[j]? = some (some d0) := Classical.byContradiction fun z => by
            rw [R.non j fun d q => z ⟨d, q⟩] at hj
            cases hj
          obtain ⟨d0, hd0⟩ := hjd
          obtain ⟨v0, hv0, r0⟩ := R.val j d0 hd0
          have ho : (ownB pm)[j]?.getD false = true := by
            cases q : (ownB pm)[j]?.getD false with
            | true => rfl
            | false =>
              rw [own_gm q] at r0
              rw [r0.1] at hj
              cases hj
          obtain ⟨g1, g2, g3⟩ := own_gm' ho
          obtain ⟨x, hx, ex⟩ := ((finM_ok er).2.2 j).1 g3
          obtain ⟨v1, hv1, r1⟩ := R'.val j x ex
          have ev : v1 = v0 := by
            rw [p.2 j ho] at hv1
            unfold L2.start at hv1
            rw [List.getElem?_append_left (by rw [List.length_map, hv]; exact g2)] at hv1
            rw [hv0] at hv1
            exact (Option.some.inj (Option.some.inj hv1)).symm
          obtain ⟨b, eb1, hb⟩ := ol_one r1 (by
            show gm gs j ≠ .dat
            rw [gm_pre hg g2]
            exact g1)
          have ea : v0 = .ref a := ol_all r0 a hj
          rw [ev, ea] at eb1
          cases eb1
          exact R'.out j a hb (.inr ha)
        have hP : ∀ a, (Pp a ∨ a ∈ fp) → Pp a ∨ (∃ j, a ∈ F j) ∨ H a = none := fun a z => z.elim .inl fun z => .inr (n a z)
        obtain ⟨a1, a2, a3⟩ := end_ok (N := N) R hv hg R' y p.2 er hP
        exact h v H' (Fe pm F') fp a1 a2 (fun a ha => (n a ha).resolve_left (nF a ha)) (rr.move Keeps.rfl' (fun a z => .inl (a3 a z)) fun _ _ _ h => h)
end
end Lk

end
section
set_option maxRecDepth 100000
set_option maxHeartbeats 4000000
/-! Lk9: what the operators and built-ins do to data. -/
namespace Lk
open PySem PySem.Spec PyProof.Rows L2 Cr
theorem OpR.or {X : Cx} {f : Value → Value → Sem Value} {r r' : R2} (h : OpR X f r) (h' : OpR X f r') : OpR X f (fun x y H Q => r x y H Q ∨ r' x y H Q) := by
  intro pins s σ H x y v u Q I rx ry q
  rcases q with q | q
  · exact h pins s σ H x y v u Q I rx ry q
  · exact h' pins s σ H x y v u Q I rx ry q
theorem CallR.or {X : Cx} {f : Value} {r r' : List V → Hp → VK → Prop} (h : CallR X f r) (h' : CallR X f r') : CallR X f (fun xs H Q => r xs H Q ∨ r' xs H Q) := by
  intro pins s σ H xs us Q I rx q
  rcases q with q | q
  · exact h pins s σ H xs us Q I rx q
  · exact h' pins s σ H xs us Q I rx q
/-! ### data of the hand layer -/
mutual
def toPy : D → PyData
  | .non => .none
  | .bl b => .bool b
  | .int i => .int i
  | .str s => .str s
  | .tup xs => .tuple (toPyL xs)
  | .lst xs => .list (toPyL xs)
  | .dct _ => .dict []
  | .set _ => .dict []
def toPyL : List D → List PyData
  | [] => []
  | x :: xs => toPy x :: toPyL xs
end
mutual
theorem eqv_py : ∀ (n m : Nat) (x y : D), sh n x = true → sh m y = true → eqv x y = PyData.eqv (toPy x) (toPy y)
  | n, m, .non, .non, _, _ | n, m, .non, .bl _, _, _ | n, m, .non, .int _, _, _ | n, m, .non, .str _, _, _ | n, m, .non, .tup _, _, _ | n, m, .non, .lst _, _, _ => by simp [eqv, toPy, PyData.eqv]
  | n, m, .bl _, .non, _, _ | n, m, .bl _, .bl _, _, _ | n, m, .bl _, .int _, _, _ | n, m, .bl _, .str _, _, _ | n, m, .bl _, .tup _, _, _ | n, m, .bl _, .lst _, _, _ => by simp [eqv, toPy, PyData.eqv]
  | n, m, .int _, .non, _, _ | n, m, .int _, .bl _, _, _ | n, m, .int _, .int _, _, _ | n, m, .int _, .str _, _, _ | n, m, .int _, .tup _, _, _ | n, m, .int _, .lst _, _, _ => by simp [eqv, toPy, PyData.eqv]
  | n, m, .str _, .non, _, _ | n, m, .str _, .bl _, _, _ | n, m, .str _, .int _, _, _ | n, m, .str _, .str _, _, _ | n, m, .str _, .tup _, _, _ | n, m, .str _, .lst _, _, _ => by simp [eqv, toPy, PyData.eqv]
  | n, m, .tup _, .non, _, _ | n, m, .tup _, .bl _, _, _ | n, m, .tup _, .int _, _, _ | n, m, .tup _, .str _, _, _ | n, m, .tup _, .lst _, _, _ => by simp [eqv, toPy, PyData.eqv]
  | n, m, .lst _, .non, _, _ | n, m, .lst _, .bl _, _, _ | n, m, .lst _, .int _, _, _ | n, m, .lst _, .str _, _, _ | n, m, .lst _, .tup _, _, _ => by simp [eqv, toPy, PyData.eqv]
  | n + 1, m + 1, .tup xs, .tup ys, h, h' => by
    simp only [eqv, toPy, PyData.eqv]
    exact eqvL_py n m xs ys (by simpa [sh] using h) (by simpa [sh] using h')
  | n + 1, m + 1, .lst xs, .lst ys, h, h' => by
    simp only [eqv, toPy, PyData.eqv]
    exact eqvL_py n m xs ys (by simpa [sh] using h) (by simpa [sh] using h')
  | 0, _, .tup _, .tup _, h, _ | 0, _, .lst _, .lst _, h, _ => by simp [sh] at h
  | _, 0, .tup _, .tup _, _, h | _, 0, .lst _, .lst _, _, h => by simp [sh] at h
  | n, _, .dct _, _, h, _ | n, _, .set _, _, h, _ => by cases n <;> simp [sh] at h
  | _, n, _, .dct _, _, h | _, n, _, .set _, _, h => by cases n <;> simp [sh] at h
theorem eqvL_py : ∀ (n m : Nat) (xs ys : List D), shL n xs = true → shL m ys = true → eqvL xs ys = PyData.eqvAll (toPyL xs) (toPyL ys)
  | _, _, [], [], _, _ => by simp [eqvL, toPyL, PyData.eqvAll]
  | _, _, [], _ :: _, _, _ => by simp [eqvL, toPyL, PyData.eqvAll]
  | _, _, _ :: _, [], _, _ => by simp [eqvL, toPyL, PyData.eqvAll]
  | n, m, x :: xs, y :: ys, h, h' => by
    simp only [shL, Bool.and_eq_true] at h h'
    simp only [eqvL, toPyL, PyData.eqvAll, eqv_py n m x y h.1 h'.1, eqvL_py n m xs ys h.2 h'.2]
end
mutual
theorem sh_lay : ∀ (n : Nat) (x : D), sh n x = true → PyData.canLay0 (toPy x) = true ∧ PyData.depth (toPy x) ≤ n
  | n, .non, _ | n, .bl _, _ | n, .int _, _ => by simp [toPy, PyData.canLay0, PyData.depth]
  | n, .str s, h => by
    have h' : s.cps.all (· < 0x110000) = true := by cases n <;> simpa [sh] using h
    simp only [toPy, PyData.canLay0, PyData.depth]
    exact ⟨h', Nat.zero_le _⟩
  | n + 1, .tup xs, h => by
    obtain ⟨a, b⟩ := shL_lay n xs (by simpa [sh] using h)
    simp only [toPy, PyData.canLay0, PyData.depth]
    exact ⟨a, by omega⟩
  | n + 1, .lst xs, h => by
    obtain ⟨a, b⟩ := shL_lay n xs (by simpa [sh] using h)
    simp only [toPy, PyData.canLay0, PyData.depth]
    exact ⟨a, by omega⟩
  | 0, .tup _, h | 0, .lst _, h => by simp [sh] at h
  | n, .dct _, h | n, .set _, h => by cases n <;> simp [sh] at h
theorem shL_lay : ∀ (n : Nat) (xs : List D), shL n xs = true → PyData.canLayAll0 (toPyL xs) = true ∧ PyData.depthAll (toPyL xs) ≤ n
  | n, [], _ => by simp [toPyL, PyData.canLayAll0, PyData.depthAll]
  | n, x :: xs, h => by
    simp only [shL, Bool.and_eq_true] at h
    obtain ⟨a, b⟩ := sh_lay n x h.1
    obtain ⟨c, d⟩ := shL_lay n xs h.2
    simp only [toPyL, PyData.canLayAll0, PyData.depthAll, a, c, Bool.and_self, true_and]
    omega
end
mutual
theorem dp_of {K : PySem.W.Frag} {O : Addr → Prop} {H : Hp} : ∀ (n : Nat) (x : D) (v : V), sh n x = true → Rep K O H x v → Dp K H v (toPy x)
  | n, .non, v, _, r => by rw [show v = .non from r]; exact .non
  | n, .bl b, v, _, r => by rw [show v = .bl b from r]; exact .bl b
  | n, .int i, v, _, r => by rw [show v = .int i from r]; exact .int i
  | n, .str s, v, _, r => by rw [show v = .str s from r]; exact .str s
  | n + 1, .tup xs, v, h, r => by
    obtain ⟨a, vs, rfl, t, l⟩ := r
    simp only [toPy]
    exact .tup t.sq (dpL_of n xs vs (by simpa [sh] using h) l)
  | n + 1, .lst xs, v, h, r => by
    obtain ⟨a, vs, rfl, t, l⟩ := r
    simp only [toPy]
    exact .lst t.sq (dpL_of n xs vs (by simpa [sh] using h) l)
  | 0, .tup _, _, h, _ | 0, .lst _, _, h, _ => by simp [sh] at h
  | n, .dct _, _, h, _ | n, .set _, _, h, _ => by cases n <;> simp [sh] at h
theorem dpL_of {K : PySem.W.Frag} {O : Addr → Prop} {H : Hp} : ∀ (n : Nat) (xs : List D) (vs : List V), shL n xs = true → RepL K O H xs vs → DpAll K H vs (toPyL xs)
  | n, [], vs, _, r => by rw [show vs = [] from r]; exact .nil
  | n, x :: xs, vs, h, r => by
    simp only [shL, Bool.and_eq_true] at h
    obtain ⟨v, us, rfl, r1, r2⟩ := r
    exact .cons (dp_of n x v h.1 r1) (dpL_of n xs us h.2 r2)
end
theorem dp_w {K : PySem.W.Frag} {O : Addr → Prop} {H : Hp} {n : Nat} {x : D} {v : V} (h : sh n x = true) (r : RepW K O H x v) : Dp K H v (toPy x) := by
  cases x with
  | lst xs =>
    obtain ⟨a, vs, rfl, t, l⟩ := r
    cases n with
    | zero => simp [sh] at h
    | succ n =>
      simp only [toPy]
      exact .lst t (dpL_of n xs vs (by simpa [sh] using h) l)
  | _ => exact dp_of (O := O) n _ v h r
theorem shaped_of {x : D} (h : sh DEP x = true) : SeqAt.shaped (toPy x) = true := by
  obtain ⟨a, b⟩ := sh_lay _ x h
  unfold SeqAt.shaped
  rw [a, decide_eq_true (show (toPy x).depth ≤ 64 from Nat.le_trans b (by decide))] <;> rfl
section
variable {X : Cx} {K : PySem.W.Frag}
/-! ### comparisons -/
theorem os_eq : OpS K (rEqD K) gEq := fun O H x y d1 d2 d Q dm r1 r2 e q => by
  unfold gEq at e
  split at e
  · rename_i h
    cases e
    refine ⟨toPy d1, toPy d2, dp_w h.1 r1, dp_w h.2 r2, shaped_of h.1, shaped_of h.2, ?_⟩
    rw [← eqv_py _ _ _ _ h.1 h.2]
    exact q _ _ (fun _ _ h => h) rfl
  · cases e
theorem os_ne : OpS K (rNeD K) gNe := fun O H x y d1 d2 d Q dm r1 r2 e q => by
  unfold gNe at e
  split at e
  · rename_i h
    cases e
    refine ⟨toPy d1, toPy d2, dp_w h.1 r1, dp_w h.2 r2, shaped_of h.1, shaped_of h.2, ?_⟩
    rw [← eqv_py _ _ _ _ h.1 h.2]
    exact q _ _ (fun _ _ h => h) rfl
  · cases e
/-- x in c, c a list or a tuple of data -/
def rInA (K : PySem.W.Frag) (neg : Bool) : R2 := fun x y H Q => ∃ d ds, Dp K H x d ∧ (Dp K H y (.list ds) ∨ Dp K H y (.tuple ds)) ∧ PyData.canLay0 d = true ∧ PyData.canLayAll0 ds = true ∧ d.depth ≤ 60 ∧
  Q (.bl (if neg then !(ds.any fun z => PyData.eqv z d) else ds.any fun z => PyData.eqv z d)) H
theorem op_inA (hu : X.A.units + 65 < cLine) : OpR X (compareOp .In) (rInA X.K false) := by
  intro pins s σ H x y v u Q I rx ry h
  obtain ⟨d, ds, hd, he, sd, se, dd, q⟩ := h
  obtain ⟨as, r1⟩ := Dp.reads I d x v hd rx
  have hr : X.A.units + 1 + min (PyData.depthAll ds) d.depth < cLine := by
    have := Nat.min_le_right (PyData.depthAll ds) d.depth
    omega
  rcases he with he | he
  · obtain ⟨bs, r2⟩ := Dp.reads I (.list ds) y u he ry
    exact SeqAt.in_list_reads r2 r1 se sd hr ⟨.bl _, H, I, rfl, q⟩
  · obtain ⟨bs, r2⟩ := Dp.reads I (.tuple ds) y u he ry
    exact SeqAt.in_tuple_reads r2 r1 se sd hr ⟨.bl _, H, I, rfl, q⟩
theorem op_niA (hu : X.A.units + 65 < cLine) : OpR X (compareOp .NotIn) (rInA X.K true) := by
  intro pins s σ H x y v u Q I rx ry h
  obtain ⟨d, ds, hd, he, sd, se, dd, q⟩ := h
  obtain ⟨as, r1⟩ := Dp.reads I d x v hd rx
  have hr : X.A.units + 1 + min (PyData.depthAll ds) d.depth < cLine := by
    have := Nat.min_le_right (PyData.depthAll ds) d.depth
    omega
  rcases he with he | he
  · obtain ⟨bs, r2⟩ := Dp.reads I (.list ds) y u he ry
    exact SeqAt.notIn_list_reads r2 r1 se sd hr ⟨.bl _, H, I, rfl, q⟩
  · obtain ⟨bs, r2⟩ := Dp.reads I (.tuple ds) y u he ry
    exact SeqAt.notIn_tuple_reads r2 r1 se sd hr ⟨.bl _, H, I, rfl, q⟩
theorem any_py {n m : Nat} {x : D} (hx : sh m x = true) : ∀ {ys : List D}, shL n ys = true → ((toPyL ys).any fun z => PyData.eqv z (toPy x)) = ys.any fun y => eqv y x
  | [], _ => rfl
  | y :: ys, h => by
    simp only [shL, Bool.and_eq_true] at h
    simp only [toPyL, List.any_cons, any_py hx h.2, eqv_py _ _ _ _ h.1 hx]
theorem in_run {x y : V} {d1 d2 : D} {O : Addr → Prop} {H : Hp} {Q : VK} {neg : Bool} {b : Bool} (r1 : RepW K O H d1 x) (r2 : RepW K O H d2 y) (e : gIn d1 d2 = some (.bl b)) (q : Q (.bl (if neg then !b else b)) H) : rInA K neg x y H Q := by
  unfold gIn at e
  split at e
  · split at e
    · rename_i ys h
      cases e
      have h2 : sh (DEP + 1) (.lst ys) = true := by simpa [sh] using h.2
      obtain ⟨a, b⟩ := sh_lay _ d1 h.1
      refine ⟨toPy d1, toPyL ys, dp_w h.1 r1, .inl (by have := dp_w h2 r2; simpa only [toPy] using this), a, (shL_lay _ _ h.2).1, b, ?_⟩
      rw [any_py h.1 h.2]
      exact q
    · cases e
  · split at e
    · rename_i ys h
      cases e
      have h2 : sh (DEP + 1) (.tup ys) = true := by simpa [sh] using h.2
      obtain ⟨a, b⟩ := sh_lay _ d1 h.1
      refine ⟨toPy d1, toPyL ys, dp_w h.1 r1, .inr (by have := dp_w h2 r2; simpa only [toPy] using this), a, (shL_lay _ _ h.2).1, b, ?_⟩
      rw [any_py h.1 h.2]
      exact q
    · cases e
  · cases e
theorem gIn_bl {x c d : D} (e : gIn x c = some d) : ∃ b, d = .bl b := by
  unfold gIn at e
  split at e <;> first | (split at e <;> first | (cases e; exact ⟨_, rfl⟩) | cases e) | cases e
theorem os_in : OpS K (rInA K false) gIn := fun O H x y d1 d2 d Q dm r1 r2 e q => by
  obtain ⟨b, rfl⟩ := gIn_bl e
  exact in_run r1 r2 e (q _ _ (fun _ _ h => h) rfl)
theorem os_ni : OpS K (rInA K true) gNi := fun O H x y d1 d2 d Q dm r1 r2 e q => by
  unfold gNi at e
  split at e
  · rename_i b h
    cases e
    exact in_run r1 r2 h (q _ _ (fun _ _ h => h) rfl)
  · cases e
def isNon : D → Bool
  | .non => true
  | _ => false
theorem repW_non {O : Addr → Prop} {H : Hp} {d : D} {x : V} (r : RepW K O H d x) : decide (x = .non) = isNon d := by
  cases d with
  | non => rw [show x = .non from r]; rfl
  | bl b => rw [show x = .bl b from r]; rfl
  | int b => rw [show x = .int b from r]; rfl
  | str b => rw [show x = .str b from r]; rfl
  | tup b => obtain ⟨a, vs, rfl, _⟩ := r; rfl
  | lst b => obtain ⟨a, vs, rfl, _⟩ := r; rfl
  | dct b => exact r.elim
  | set b => exact r.elim
theorem os_isN : OpS K (fun x y H Q => y = .non ∧ Q (.bl (decide (x = .non))) H) gIsN := fun O H x y d1 d2 d Q dm r1 r2 e q => by
  unfold gIsN at e
  have h := repW_non r1
  split at e
  · cases e; exact ⟨r2, by rw [h]; exact q _ _ (fun _ _ h => h) rfl⟩
  · rename_i hne
    cases e
    refine ⟨r2, ?_⟩
    rw [h]
    cases d1 with
    | non => exact (hne rfl).elim
    | _ => exact q _ _ (fun _ _ h => h) rfl
  · cases e
theorem os_noN : OpS K (fun x y H Q => y = .non ∧ Q (.bl (!decide (x = .non))) H) gNoN := fun O H x y d1 d2 d Q dm r1 r2 e q => by
  unfold gNoN at e
  have h := repW_non r1
  split at e
  · cases e; exact ⟨r2, by rw [h]; exact q _ _ (fun _ _ h => h) rfl⟩
  · rename_i hne
    cases e
    refine ⟨r2, ?_⟩
    rw [h]
    cases d1 with
    | non => exact (hne rfl).elim
    | _ => exact q _ _ (fun _ _ h => h) rfl
  · cases e
theorem os_iB {p : Int → Int → Bool} : OpS K (rI0 fun i j => .bl (p i j)) (iB p) := fun O H x y d1 d2 d Q dm r1 r2 e q => by
  unfold iB at e
  split at e
  · rename_i i j
    cases e
    exact ⟨i, j, r1, r2, q _ _ (fun _ _ h => h) rfl⟩
  · cases e
theorem os_lt : OpS K (rI0 fun i j => .bl (decide (i < j))) gLt := os_iB
theorem os_le : OpS K (rI0 fun i j => .bl (decide (i ≤ j))) gLe := os_iB
theorem os_gt : OpS K (rI0 fun i j => .bl (decide (j < i))) gGt := os_iB
theorem os_ge : OpS K (rI0 fun i j => .bl (decide (j ≤ i))) gGe := os_iB
/-! ### arithmetic -/
theorem os_sub : OpS K (rI0 fun i j => .int (i - j)) Cr.gSub := fun O H x y d1 d2 d Q dm r1 r2 e q => by
  unfold Cr.gSub at e
  split at e
  · rename_i i j
    cases e
    exact ⟨i, j, r1, r2, q _ _ (fun _ _ h => h) rfl⟩
  · cases e
theorem os_mul : OpS K (rI CMul fun i j => .int (i * j)) gMul := fun O H x y d1 d2 d Q dm r1 r2 e q => by
  unfold gMul at e
  split at e
  · rename_i i j
    split at e
    · rename_i h
      cases e
      exact ⟨i, j, r1, r2, h, q _ _ (fun _ _ h => h) rfl⟩
    · cases e
  · cases e
theorem os_fdv : OpS K (rI CDiv fun i j => .int (i / j)) gFdv := fun O H x y d1 d2 d Q dm r1 r2 e q => by
  unfold gFdv at e
  split at e
  · rename_i i j
    split at e
    · rename_i h
      cases e
      exact ⟨i, j, r1, r2, h, q _ _ (fun _ _ h => h) rfl⟩
    · cases e
  · cases e
theorem os_mod : OpS K (rI (fun _ j => 0 < j) fun i j => .int (i % j)) gMod := fun O H x y d1 d2 d Q dm r1 r2 e q => by
  unfold gMod at e
  split at e
  · rename_i i j
    split at e
    · rename_i h
      cases e
      exact ⟨i, j, r1, r2, h, q _ _ (fun _ _ h => h) rfl⟩
    · cases e
  · cases e
theorem os_pow : OpS K (rI CPow fun i j => .int (i ^ j.toNat)) gPow := fun O H x y d1 d2 d Q dm r1 r2 e q => by
  unfold gPow at e
  split at e
  · rename_i i j
    split at e
    · rename_i h
      cases e
      exact ⟨i, j, r1, r2, ⟨h.1, by omega, h.2.2⟩, q _ _ (fun _ _ h => h) rfl⟩
    · cases e
  · cases e
theorem szl {n : Nat} (h : n ≤ 1000000) : n ≤ sizeLine := Nat.le_trans h (by decide)
/-- a + b: ints, texts, tuples -/
def rAddA (K : PySem.W.Frag) : R2 := fun x y H Q => (rI0 fun i j => .int (i + j)) x y H Q ∨ (∃ i j, x = .str i ∧ y = .str j ∧ i.length + j.length ≤ sizeLine ∧ Q (.str (i ++ j)) H) ∨ rCatA K x y H Q
theorem op_addA : OpR X (binaryOp .Add) (rAddA X.K) := OpR.or op_add (OpR.or op_add_str op_catA)
theorem os_add : OpS K (rAddA K) Cr.gAdd := fun O H x y d1 d2 d Q dm r1 r2 e q => by
  unfold Cr.gAdd at e
  split at e
  · rename_i i j
    cases e
    exact .inl ⟨i, j, r1, r2, q _ _ (fun _ _ h => h) rfl⟩
  · rename_i i j
    split at e
    · rename_i h
      cases e
      exact .inr (.inl ⟨i, j, r1, r2, szl h, q _ _ (fun _ _ h => h) rfl⟩)
    · cases e
  · rename_i as bs
    split at e
    · rename_i h
      cases e
      obtain ⟨a, us, rfl, t1, l1⟩ := r1
      obtain ⟨b, ws, rfl, t2, l2⟩ := r2
      refine .inr (.inr ⟨a, b, us, ws, rfl, rfl, t1.sq, t2.sq, by rw [l1.length, l2.length]; exact szl h, fun e1 => ?_, fun _ e2 => ?_, fun _ _ p hp => ?_⟩)
      · have : as = [] := List.eq_nil_of_length_eq_zero (by rw [← l1.length, e1]; rfl)
        subst this
        exact q _ _ (fun _ _ h => h) ⟨b, ws, rfl, t2, l2⟩
      · have : bs = [] := List.eq_nil_of_length_eq_zero (by rw [← l2.length, e2]; rfl)
        subst this
        rw [List.append_nil] at q
        exact q _ _ (fun _ _ h => h) ⟨a, us, rfl, t1, l1⟩
      · exact q _ _ (same_upd hp) (rep_tup dm (l1.append l2) hp)
    · cases e
  · cases e
theorem us_neg : UnS K (rU fun i => .int (-i)) gNeg := fun O H x d1 d Q dm r1 e q => by
  unfold gNeg at e
  split at e
  · rename_i i
    cases e
    exact ⟨i, r1, q _ _ (fun _ _ h => h) rfl⟩
  · cases e
/-! ### items -/
theorem atD_some {α : Type} {xs : List α} {i : Int} {x : α} (h : atD xs i = some x) : ∃ j : Nat, L2.ixN xs.length i = some j ∧ xs[j]? = some x := by
  unfold atD at h
  cases e : Cr.ixN xs.length i with
  | none => rw [e] at h; cases h
  | some j => rw [e] at h; exact ⟨j, e, h⟩
theorem at_rep {O : Addr → Prop} {H : Hp} {xs : List D} {vs : List V} {i : Int} {d : D} (l : RepL K O H xs vs) (h : atD xs i = some d) : ∃ v, atI vs i = some v ∧ Rep K O H d v := by
  obtain ⟨j, e1, e2⟩ := atD_some h
  obtain ⟨v, hv, r⟩ := l.get e2
  refine ⟨v, ?_, r⟩
  unfold atI
  rw [l.length, e1]
  exact hv
theorem os_ix : OpS K (rIx K) gIx := fun O H x y d1 d2 d Q dm r1 r2 e q => by
  unfold gIx at e
  split at e
  · rename_i xs j
    obtain ⟨a, vs, rfl, t, l⟩ := r1
    obtain ⟨v, hv, r⟩ := at_rep l e
    exact .inl ⟨a, vs, j, v, rfl, r2, t, hv, q _ _ (fun _ _ h => h) r⟩
  · rename_i xs j
    obtain ⟨a, vs, rfl, t, l⟩ := r1
    obtain ⟨v, hv, r⟩ := at_rep l e
    exact .inr (.inl ⟨a, vs, j, v, rfl, r2, t.sq, hv, q _ _ (fun _ _ h => h) r⟩)
  · rename_i s j
    split at e
    · rename_i h
      cases e1 : atD s.cps.toList j with
      | none => rw [e1] at e; cases e
      | some c =>
        rw [e1] at e
        cases e
        obtain ⟨k, e2, e3⟩ := atD_some e1
        refine .inr (.inr ⟨s, j, c, r1, r2, szl h, ?_, q _ _ (fun _ _ h => h) rfl⟩)
        unfold atI
        rw [e2]
        exact e3
    · cases e
  · cases e
/-! ### built-ins -/
theorem wl1 {O : Addr → Prop} {H : Hp} {d : D} {vs : List V} (r : RepWL K O H [d] vs) : ∃ v, vs = [v] ∧ RepW K O H d v := by
  cases r with
  | cons r1 r2 => cases r2; exact ⟨_, rfl, r1⟩
theorem wl2 {O : Addr → Prop} {H : Hp} {d d' : D} {vs : List V} (r : RepWL K O H [d, d'] vs) : ∃ v v', vs = [v, v'] ∧ RepW K O H d v ∧ RepW K O H d' v' := by
  cases r with
  | cons r1 r2 =>
    cases r2 with
    | cons r3 r4 => cases r4; exact ⟨_, _, rfl, r1, r3⟩
theorem cs_len : CallS K (fun xs H Q => ∃ x n, xs = [x] ∧ LenV K x H n ∧ Q (.int n) H) bLen := fun O H vs ds d Q dm r e q => by
  unfold bLen at e
  split at e
  · cases e
    obtain ⟨v, rfl, a, us, rfl, t, l⟩ := wl1 r
    exact ⟨_, us.length, rfl, .inl ⟨us, t, rfl⟩, by rw [l.length]; exact q _ _ (fun _ _ h => h) rfl⟩
  · cases e
    obtain ⟨v, rfl, a, us, rfl, t, l⟩ := wl1 r
    exact ⟨_, us.length, rfl, .inr ⟨us, t.sq, rfl⟩, by rw [l.length]; exact q _ _ (fun _ _ h => h) rfl⟩
  · rename_i s
    split at e
    · rename_i h
      cases e
      obtain ⟨v, rfl, r1⟩ := wl1 r
      rw [show v = .str s from r1]
      exact ⟨_, s.length, rfl, ⟨szl h, rfl⟩, q _ _ (fun _ _ h => h) rfl⟩
    · cases e
  · cases e
theorem cs_abs : CallS K (fun xs H Q => ∃ i, xs = [.int i] ∧ Q (.int (if i < 0 then -i else i)) H) bAbs := fun O H vs ds d Q dm r e q => by
  unfold bAbs at e
  split at e
  · rename_i i
    cases e
    obtain ⟨v, rfl, r1⟩ := wl1 r
    exact ⟨i, by rw [show v = .int i from r1], q _ _ (fun _ _ h => h) rfl⟩
  · cases e
theorem cs_int : CallS K (fun xs H Q => (∃ i, xs = [.int i] ∧ Q (.int i) H) ∨ ∃ k, xs = [.bl k] ∧ Q (.int (if k then 1 else 0)) H) bInt := fun O H vs ds d Q dm r e q => by
  unfold bInt at e
  split at e
  · rename_i i
    cases e
    obtain ⟨v, rfl, r1⟩ := wl1 r
    exact .inl ⟨i, by rw [show v = .int i from r1], q _ _ (fun _ _ h => h) rfl⟩
  · rename_i i
    cases e
    obtain ⟨v, rfl, r1⟩ := wl1 r
    exact .inr ⟨i, by rw [show v = .bl i from r1], q _ _ (fun _ _ h => h) rfl⟩
  · cases e
theorem cs_max2 : CallS K (fun xs H Q => ∃ i j, xs = [.int i, .int j] ∧ Q (.int (if j > i then j else i)) H) bMax2 := fun O H vs ds d Q dm r e q => by
  unfold bMax2 at e
  split at e
  · rename_i i j
    cases e
    obtain ⟨v, v', rfl, r1, r2⟩ := wl2 r
    exact ⟨i, j, by rw [show v = .int i from r1, show v' = .int j from r2], q _ _ (fun _ _ h => h) rfl⟩
  · cases e
theorem cs_min2 : CallS K (fun xs H Q => ∃ i j, xs = [.int i, .int j] ∧ Q (.int (if j < i then j else i)) H) bMin2 := fun O H vs ds d Q dm r e q => by
  unfold bMin2 at e
  split at e
  · rename_i i j
    cases e
    obtain ⟨v, v', rfl, r1, r2⟩ := wl2 r
    exact ⟨i, j, by rw [show v = .int i from r1, show v' = .int j from r2], q _ _ (fun _ _ h => h) rfl⟩
  · cases e
theorem intsD_rep {O : Addr → Prop} {H : Hp} : ∀ {xs : List D} {ns : List Int} {vs : List V}, intsD xs = some ns → RepL K O H xs vs → vs = ns.map V.int
  | [], ns, vs, e, r => by
    cases e
    exact r
  | .int i :: xs, ns, vs, e, r => by
    simp only [intsD, Option.map_eq_some_iff] at e
    obtain ⟨ms, h, rfl⟩ := e
    obtain ⟨v, us, rfl, r1, r2⟩ := r
    rw [show v = .int i from r1, intsD_rep h r2]
    rfl
  | .non :: _, _, _, e, _ | .bl _ :: _, _, _, e, _ | .str _ :: _, _, _, e, _ | .tup _ :: _, _, _, e, _ | .lst _ :: _, _, _, e, _ | .dct _ :: _, _, _, e, _ | .set _ :: _, _, _, e, _ => by simp [intsD] at e
theorem cs_sum : CallS K (rSum K) bSum := fun O H vs ds d Q dm r e q => by
  unfold bSum at e
  split at e
  · rename_i xs
    cases h : intsD xs with
    | none => rw [h] at e; cases e
    | some ns =>
      rw [h] at e
      cases e
      obtain ⟨v, rfl, a, us, rfl, t, l⟩ := wl1 r
      rw [intsD_rep h l] at t
      exact ⟨a, ns, rfl, t, q _ _ (fun _ _ h => h) rfl⟩
  · cases e
theorem cn_list : CallN K (fun xs H Q => ∃ p ys, xs = [.ref p] ∧ (SqL K H p ys ∨ SqT K H p ys) ∧ ∀ l, H l = none → Q (.ref l) (upd H l (.lst ys))) bList := fun O H vs ds d Q dm r e q => by
  unfold bList at e
  split at e
  · cases e
    obtain ⟨v, rfl, a, us, rfl, t, l⟩ := wl1 r
    exact ⟨a, us, rfl, .inl t, fun p hp => q p _ _ rfl hp l⟩
  · cases e
    obtain ⟨v, rfl, a, us, rfl, t, l⟩ := wl1 r
    exact ⟨a, us, rfl, .inr t.sq, fun p hp => q p _ _ rfl hp l⟩
  · cases e
theorem cs_tuple : CallS K (fun xs H Q => ∃ p ys, xs = [.ref p] ∧ ((SqL K H p ys ∧ ∀ l, H l = none → Q (.ref l) (upd H l (.tup ys))) ∨ (SqT K H p ys ∧ Q (.ref p) H))) bTuple := fun O H vs ds d Q dm r e q => by
  unfold bTuple at e
  split at e
  · cases e
    obtain ⟨v, rfl, a, us, rfl, t, l⟩ := wl1 r
    exact ⟨a, us, rfl, .inl ⟨t, fun p hp => q _ _ (same_upd hp) (rep_tup dm l hp)⟩⟩
  · cases e
    obtain ⟨v, rfl, a, us, rfl, t, l⟩ := wl1 r
    exact ⟨a, us, rfl, .inr ⟨t.sq, q _ _ (fun _ _ h => h) ⟨a, us, rfl, t, l⟩⟩⟩
  · cases e
end
end Lk

end
section
set_option maxRecDepth 100000
set_option maxHeartbeats 4000000
/-! Lk10: the rules of calls; what changes a list; a slot's own list that is walked. -/
namespace Lk
open PySem PySem.Spec PyProof.Rows L2 Cr
section
variable {X : Cx} {C : Cc} {e o : Expr} {es : List Expr} {x : Str} {p pos apos : Pos} {as : List Opd} {r : List V → Hp → VK → Prop} {g : List D → Option D} {id T : String}
/-! ### calls -/
theorem re_callB (hc : CallR X (.builtin id) r) (hs : CallS C.K r g) (hg : Gl X x) (hm : X.mg x = none) (hv : bootBuiltins x = some (.builtin id)) (ha : PA X (e :: es) (tAs C as)) (hn : x ≠ "__name__" := by decide) (hdb : (x == ("__debug__" : Str)) = false := by decide)
    (he : starEach (e :: es) X.env = (false, eval e X.env) :: starEach es X.env := by rfl) (hpl : (backTo pos (starEach es X.env)).any (·.1) = false := by rfl) : PE X (.Call (.Name x p) (e :: es) [] pos) (tE C (callB g as)) :=
  PE.mono (pe_callB hc hg hm hv ha hn hdb he hpl) fun σ H Q h => callB_run hs h
theorem rf_callB (hc : CallR X (.builtin id) r) (hs : CallN C.K r g) (hg : Gl X x) (hm : X.mg x = none) (hv : bootBuiltins x = some (.builtin id)) (ha : PA X (e :: es) (tAs C as)) (hn : x ≠ "__name__" := by decide) (hdb : (x == ("__debug__" : Str)) = false := by decide)
    (he : starEach (e :: es) X.env = (false, eval e X.env) :: starEach es X.env := by rfl) (hpl : (backTo pos (starEach es X.env)).any (·.1) = false := by rfl) : PE X (.Call (.Name x p) (e :: es) [] pos) (tF C .ol (callB g as)) :=
  PE.mono (pe_callB hc hg hm hv ha hn hdb he hpl) fun σ H Q h => callN_run hs h
theorem re_callTy (hc : CallR X (.type T) r) (hs : CallS C.K r g) (hg : Gl X x) (hm : X.mg x = none) (hv : bootBuiltins x = some (.type T)) (ha : PA X (e :: es) (tAs C as)) (hn : x ≠ "__name__" := by decide) (hdb : (x == ("__debug__" : Str)) = false := by decide)
    (he : starEach (e :: es) X.env = (false, eval e X.env) :: starEach es X.env := by rfl) (hpl : (backTo pos (starEach es X.env)).any (·.1) = false := by rfl) : PE X (.Call (.Name x p) (e :: es) [] pos) (tE C (callB g as)) :=
  PE.mono (pe_callTy hc hg hm hv ha hn hdb he hpl) fun σ H Q h => callB_run hs h
theorem rf_callTy (hc : CallR X (.type T) r) (hs : CallN C.K r g) (hg : Gl X x) (hm : X.mg x = none) (hv : bootBuiltins x = some (.type T)) (ha : PA X (e :: es) (tAs C as)) (hn : x ≠ "__name__" := by decide) (hdb : (x == ("__debug__" : Str)) = false := by decide)
    (he : starEach (e :: es) X.env = (false, eval e X.env) :: starEach es X.env := by rfl) (hpl : (backTo pos (starEach es X.env)).any (·.1) = false := by rfl) : PE X (.Call (.Name x p) (e :: es) [] pos) (tF C .ol (callB g as)) :=
  PE.mono (pe_callTy hc hg hm hv ha hn hdb he hpl) fun σ H Q h => callN_run hs h
variable {k j : Nat} {f : Addr} {fd : FuncData} {ps : List Str} {pm : List Md} {rm : Md} {cl : Nat → Addr} {fn : Fn} {E : XK}
/-- f(e, ..), f a def -/
theorem rf_call (F : FnOk X.prog X.w X.K X.mg X.base (L2.CX X.prog X.w) k f fd ps (spF C.K pm rm cl fn)) (hr : Room k X.A) (hg : Gl X x) (hm : X.mg x = some (.ref f)) (hk : PySem.W.keepIn X.K (.ref f) = true) (hb : Binds X.K fd ps [])
    (hx : Passes (L2.CX X.prog X.w) X E) (hE : ∀ c σ H', C.W c σ H' → E (.ref (cl c)) none H') (ha : PA X (e :: es) (tAs C as)) (hf : fits C.G as pm = true) (hn : (slots as).Nodup) (hdb : (x == ("__debug__" : Str)) = false := by decide)
    (he : starEach (e :: es) X.env = (false, eval e X.env) :: starEach es X.env := by rfl) (hpl : (backTo pos (starEach es X.env)).any (·.1) = false := by rfl) : PE X (.Call (.Name x p) (e :: es) [] pos) (tF C rm (callF fn as)) :=
  PE.mono (pe_call F hr hg hm hk hb .nil hx ha hdb he hpl) fun σ H Q h => tAs.imp _ (callF_run (E := E) hf hn (fun c H' => hE c σ H') h) fun vs H1 q => by rw [List.append_nil]; exact q
/-- .. as data -/
theorem re_call (F : FnOk X.prog X.w X.K X.mg X.base (L2.CX X.prog X.w) k f fd ps (spF C.K pm .dat cl fn)) (hr : Room k X.A) (hg : Gl X x) (hm : X.mg x = some (.ref f)) (hk : PySem.W.keepIn X.K (.ref f) = true) (hb : Binds X.K fd ps [])
    (hx : Passes (L2.CX X.prog X.w) X E) (hE : ∀ c σ H', C.W c σ H' → E (.ref (cl c)) none H') (ha : PA X (e :: es) (tAs C as)) (hf : fits C.G as pm = true) (hn : (slots as).Nodup) (hdb : (x == ("__debug__" : Str)) = false := by decide)
    (he : starEach (e :: es) X.env = (false, eval e X.env) :: starEach es X.env := by rfl) (hpl : (backTo pos (starEach es X.env)).any (·.1) = false := by rfl) : PE X (.Call (.Name x p) (e :: es) [] pos) (tE C (callF fn as)) :=
  re_fe (rf_call F hr hg hm hk hb hx hE ha hf hn hdb he hpl)
/-! ### isinstance -/
def tyN : Ty → String
  | .int => "int" | .bool => "bool" | .tuple => "tuple" | .list => "list" | .str => "str"
theorem kit_nt : ∀ (T : Ty) (b : Bool), True := fun _ _ => trivial
theorem wr_tyL {K : PySem.W.Frag} {H : Hp} {a : Addr} {vs : List V} (h : SqL K H a vs) : TyX K H (.ref a) (.type "list") := by
  rcases h with (h | ⟨o, h⟩) | ⟨o, its, n, h, c, _⟩
  · exact .base (.lst h)
  · exact .base (.frz h)
  · exact .kList h c
theorem wr_tyT {K : PySem.W.Frag} {H : Hp} {a : Addr} {vs : List V} (h : SqT K H a vs) : TyX K H (.ref a) (.type "tuple") := by
  rcases h with (h | ⟨o, h⟩) | ⟨o, its, n, h, c, _⟩
  · exact .base (.tup h)
  · exact .fTuple h
  · exact .kTuple h c
theorem isi_run {K : PySem.W.Frag} {O : Addr → Prop} {H : Hp} {T : Ty} {d : D} {b : Bool} {v : V} (r : RepW K O H d v) (e : isi T d = some b) : ∃ t, TyX K H v (.type t) ∧ PySem.W.kitOne K (.type t) (.type (tyN T)) = some b := by
  cases d with
  | non =>
    rw [show v = .non from r]
    refine ⟨"NoneType", .base .non, ?_⟩
    cases T <;> (cases e; exact kit_ty (by decide +kernel))
  | bl k =>
    rw [show v = .bl k from r]
    refine ⟨"bool", .base (.bl k), ?_⟩
    cases T <;> (cases e; exact kit_ty (by decide +kernel))
  | int k =>
    rw [show v = .int k from r]
    refine ⟨"int", .base (.int k), ?_⟩
    cases T <;> (cases e; exact kit_ty (by decide +kernel))
  | str k =>
    rw [show v = .str k from r]
    refine ⟨"str", .base (.str k), ?_⟩
    cases T <;> (cases e; exact kit_ty (by decide +kernel))
  | tup k =>
    obtain ⟨a, vs, rfl, t, l⟩ := r
    refine ⟨"tuple", wr_tyT t.sq, ?_⟩
    cases T <;> (cases e; exact kit_ty (by decide +kernel))
  | lst k =>
    obtain ⟨a, vs, rfl, t, l⟩ := r
    refine ⟨"list", wr_tyL t, ?_⟩
    cases T <;> (cases e; exact kit_ty (by decide +kernel))
  | dct k => cases T <;> cases e
  | set k => cases T <;> cases e
theorem re_isi {o : Opd} {e2 : Expr} {T : Ty} (hg : Gl X "isinstance") (hm : X.mg "isinstance" = none) (ha : PE X e (tO C o)) (ht : PE X e2 (tC (.ty (tyN T)))) (hX : X.K = C.K)
    (he : starEach (e :: e2 :: []) X.env = (false, eval e X.env) :: starEach (e2 :: []) X.env := by rfl) (he2 : starEach (e2 :: []) X.env = (false, eval e2 X.env) :: starEach [] X.env := by rfl) (hpl : (backTo pos (starEach (e2 :: []) X.env)).any (·.1) = false := by rfl) :
    PE X (.Call (.Name "isinstance" p) [e, e2] [] pos) (tE C (un (gIsi T) o)) := by
  refine PE.mono (pe_callB call_isi hg hm (by decide +kernel) (pa_cons ha (pa_cons ht pa_nil he2) he) (by decide) (by decide) he hpl) fun σ H Q h => tO.imp (one h) fun v H1 ⟨O, d1, d, dm, r1, e1, q⟩ => ?_
  unfold gIsi at e1
  cases ei : isi T d1 with
  | none => rw [ei] at e1; cases e1
  | some b =>
    rw [ei] at e1
    cases e1
    obtain ⟨t, ty, k⟩ := isi_run r1 ei
    rw [hX]
    exact ⟨v, .ty (tyN T), .type t, .type (tyN T), b, rfl, .ty _, ty, k, q _ _ (fun _ _ h => h) rfl⟩
end
/-! ### what changes a list -/
section
variable {C : Cc} {σ : L2.St} {H : Hp} {F : Fp} {P : Addr → Prop} {ε : Sl} {i : Nat}
/-- slot i's own list becomes another -/
theorem RepE.mut (R : RepE C.K C.G H σ ε F P) {a : Addr} {ds : List D} {vs us : List V} (hG : C.G i = .ol) (hs : σ[i]? = some (some (.ref a))) (hF : F i = [a]) (l : RepL C.K (Own F P) H ds us) (hi : i < ε.length) (hv : H a = some (.lst vs)) :
    RepE C.K C.G (upd H a (.lst us)) σ (ε.set i (some (.lst ds))) F P ∧ Fr F H F (upd H a (.lst us)) := by
  have oa : Own F P a := .inr ⟨i, by rw [hF]; exact List.mem_singleton.mpr rfl⟩
  refine ⟨⟨by simp [R.len], fun j d e => ?_, fun j no => ?_, R.sep, R.out, fun b z => ?_⟩, fun b o h n => ?_, fun j b z => .inl ⟨j, z⟩, fun b n => ?_⟩
  · by_cases ej : j = i
    · subst ej
      rw [List.getElem?_set_self hi] at e
      cases e
      refine ⟨_, hs, ?_⟩
      rw [hG, hF]
      exact ⟨a, us, ds, rfl, rfl, rfl, upd_same, RepL.move (keeps_upd oa) (fun b z => .inl z) _ _ l⟩
    · rw [List.getElem?_set_ne (Ne.symm ej)] at e
      obtain ⟨u, hu, r⟩ := R.val j d e
      refine ⟨u, hu, r.move (keeps_upd oa) (fun b z => .inl z) fun b hb o ho => ?_⟩
      rw [upd_ne fun z => ej (R.sep j i b hb (by rw [hF, z]; exact List.mem_singleton.mpr rfl))]
      exact ho
  · by_cases ej : j = i
    · subst ej; exact absurd (List.getElem?_set_self hi) (no _)
    · refine R.non j fun d => ?_
      have := no d
      rwa [List.getElem?_set_ne (Ne.symm ej)] at this
  · by_cases q : b = a
    · rw [q, upd_same]; intro z; cases z
    · rw [upd_ne q]; exact R.dom b z
  · rw [upd_ne fun z => n i (by rw [hF, z]; exact List.mem_singleton.mpr rfl)]
    exact h
  · by_cases q : b = a
    · rw [q, upd_same]; intro z; cases z
    · rw [upd_ne q]; exact n
theorem RepE.ol (R : RepE C.K C.G H σ ε F P) (hG : C.G i = .ol) {d : D} (e : ε[i]? = some (some d)) : ∃ a vs ds, d = .lst ds ∧ σ[i]? = some (some (.ref a)) ∧ F i = [a] ∧ H a = some (.lst vs) ∧ RepL C.K (Own F P) H ds vs ∧ i < ε.length := by
  obtain ⟨v, hv, r⟩ := R.val i d e
  rw [hG] at r
  obtain ⟨a, vs, ds, rfl, rfl, h1, h2, h3⟩ := r
  exact ⟨a, vs, ds, rfl, hv, h1, h2, h3, (List.getElem?_eq_some_iff.mp e).1⟩
end
section
variable {X : Cx} {C : Cc} {o e : Expr} {x : Str} {p pos apos cpos spos tpos : Pos} {m mk : M D} {i : Nat}
/-- x.append(e) -/
theorem rs_app {st : Stmt} (hG : C.G i = .ol) (h : PS X st (tDrop (tBM C.K "list" rAppend (tVar i) (tCons (tE C m) tNil)))) : PS X st (tS C (appS i m)) := PS.mono h fun D σ H ⟨ε, F, P, R, h⟩ => by
  unfold appS at h
  obtain ⟨d0, e0, h1⟩ := (OkS.stp.bd h).rd
  have h2 := h1 H F R Fr.refl
  obtain ⟨a, vs, ds, rfl, hs, hF, ha, l, hi⟩ := R.ol hG e0
  refine ⟨.ref a, hs, .inl ⟨rfl, vs, .inl (.inl ha)⟩, ?_⟩
  refine tE.imp (gE_bd OkS.stp R h2) fun v H1 ⟨y, ε1, F1, R1, y1, r1, h3⟩ => ?_
  obtain ⟨d1, e1, h4⟩ := (OkS.stp.bd h3).rd
  have h5 := h4 H1 F1 R1 Fr.refl
  obtain ⟨a', vs', ds', rfl, hs', hF', ha', l', hi'⟩ := R1.ol hG e1
  have : a' = a := by rw [hs] at hs'; cases hs'; rfl
  subst this
  simp only at h5
  by_cases hz : ds'.length < LIM
  · rw [if_pos hz] at h5
    simp only [bd, wr, if_pos hi'] at h5
    refine ⟨a', vs', v, rfl, rfl, ha', Nat.lt_of_lt_of_le (by rw [l'.length]; exact hz) (by decide), ?_⟩
    obtain ⟨R2, y2⟩ := R1.mut (us := vs' ++ [v]) hG hs hF' (l'.append (RepL.one r1)) hi' ha'
    exact h5 σ _ F1 R2 y2 Pin.refl
  · rw [if_neg hz] at h5
    exact h5.elim
/-- x[k] = e -/
theorem rs_setI {st : Stmt} (hG : C.G i = .ol) (h : PS X st (tAsg (tE C m) (gSub (tVar i) (tE C mk) rSetL))) : PS X st (tS C (setS i mk m)) := PS.mono h fun D σ H ⟨ε, F, P, R, h⟩ => by
  refine tE.imp (gE_bd OkS.stp R h) fun v H1 ⟨y, ε1, F1, R1, y1, r1, h1⟩ => ?_
  obtain ⟨d0, e0, h2⟩ := (OkS.stp.bd h1).rd
  have h3 := h2 H1 F1 R1 Fr.refl
  obtain ⟨a, vs, ds, rfl, hs, hF, ha, l, hi⟩ := R1.ol hG e0
  refine ⟨.ref a, hs, ?_⟩
  refine tE.imp (gE_bd OkS.stp R1 h3) fun kv H2 ⟨kd, ε2, F2, R2, y2, r2, h4⟩ => ?_
  obtain ⟨d1, e1, h5⟩ := (OkS.stp.bd h4).rd
  have h6 := h5 H2 F2 R2 Fr.refl
  obtain ⟨a', vs', ds', rfl, hs', hF', ha', l', hi'⟩ := R2.ol hG e1
  have : a' = a := by rw [hs] at hs'; cases hs'; rfl
  subst this
  cases kd with
  | int j =>
    simp only at h6
    cases en : Cr.ixN ds'.length j with
    | none => rw [en] at h6; exact h6.elim
    | some n =>
      rw [en] at h6
      simp only [bd, wr, if_pos hi'] at h6
      refine ⟨a', vs', j, n, rfl, r2, ha', by rw [l'.length]; exact en, ?_⟩
      obtain ⟨R3, y3⟩ := R2.mut (us := vs'.set n v) hG hs hF' (l'.set (y2.rep r1)) hi' ha'
      exact h6 σ _ F2 R3 y3 Pin.refl
  | _ => exact h6.elim
/-- return x, x a slot's own list: it is let go -/
theorem RepE.letgo {σ : L2.St} {H : Hp} {F : Fp} {P : Addr → Prop} {ε : Sl} {v : V} {d : D} (R : RepE C.K C.G H σ ε F P) (e : ε[i]? = some (some d)) (hv : σ[i]? = some (some v)) :
    RepE C.K C.G H σ (ε.set i none) (Fset F i []) (fun a => P a ∨ a ∈ F i) ∧ RepM C.K (Own (Fset F i []) (fun a => P a ∨ a ∈ F i)) H (C.G i) d v (F i) := by
  have iff : ∀ a, Own (Fset F i []) (fun a => P a ∨ a ∈ F i) a ↔ Own F P a := fun a => by
    constructor
    · rintro ((z | z) | ⟨j, z⟩)
      · exact .inl z
      · exact .inr ⟨i, z⟩
      · by_cases ej : j = i
        · subst ej; rw [Fset_same] at z; cases z
        · rw [Fset_ne ej] at z; exact .inr ⟨j, z⟩
    · rintro (z | ⟨j, z⟩)
      · exact .inl (.inl z)
      · by_cases ej : j = i
        · subst ej; exact .inl (.inr z)
        · exact .inr ⟨j, by rw [Fset_ne ej]; exact z⟩
  have g : Grows (Own F P) (Own (Fset F i []) (fun a => P a ∨ a ∈ F i)) H := fun a z => .inl ((iff a).mp z)
  have hi : i < ε.length := (List.getElem?_eq_some_iff.mp e).1
  obtain ⟨u, hu, r⟩ := R.val i d e
  rw [hv] at hu
  cases hu
  refine ⟨⟨by simp [R.len], fun j x q => ?_, fun j no => ?_, fun j k b h h' => ?_, fun j b h z => ?_, fun b z => R.dom b ((iff b).mp z)⟩, r.move Keeps.rfl' g fun _ _ _ h => h⟩
  · by_cases ej : j = i
    · subst ej; rw [List.getElem?_set_self hi] at q; cases q
    · rw [List.getElem?_set_ne (Ne.symm ej)] at q
      obtain ⟨u, hu, r⟩ := R.val j x q
      refine ⟨u, hu, ?_⟩
      rw [Fset_ne ej]
      exact r.move Keeps.rfl' g fun _ _ _ h => h
  · by_cases ej : j = i
    · subst ej; exact Fset_same
    · rw [Fset_ne ej]
      refine R.non j fun d => ?_
      have := no d
      rwa [List.getElem?_set_ne (Ne.symm ej)] at this
  · by_cases ej : j = i
    · subst ej; rw [Fset_same] at h; cases h
    · by_cases ek : k = i
      · subst ek; rw [Fset_same] at h'; cases h'
      · rw [Fset_ne ej] at h; rw [Fset_ne ek] at h'; exact R.sep j k b h h'
  · by_cases ej : j = i
    · subst ej; rw [Fset_same] at h; cases h
    · rw [Fset_ne ej] at h
      rcases z with z | z
      · exact R.out j b h z
      · exact ej (R.sep j i b h z)
theorem retO_run {D : Ends} {σ : L2.St} {H : Hp} (hp : C.pin i = false) (hr : C.rm = C.G i ∨ C.rm = .dat) (h : tS C (retO i) D σ H) : tRet (tVar i) D σ H := by
  obtain ⟨ε, F, P, R, h⟩ := h
  obtain ⟨d, e, h1⟩ := (OkS.stp.bd h).rd
  have h2 := h1 H F R Fr.refl
  obtain ⟨v, hv, r⟩ := R.val i d e
  obtain ⟨R1, r1⟩ := R.letgo e hv
  refine ⟨v, hv, ?_⟩
  have y : Fr F H (Fset F i []) H := ⟨fun _ _ h _ => h, fun j a z => by
    by_cases ej : j = i
    · subst ej; rw [Fset_same] at z; cases z
    · rw [Fset_ne ej] at z; exact .inl ⟨j, z⟩, fun _ h => h⟩
  rcases hr with hr | hr
  · exact h2 v σ H _ (F i) R1 y Pin.refl (fun a ha => .inl ⟨i, ha⟩) (by rw [hr]; exact r1)
  · have R2 := R1.weakP (P := P) fun a z => .inl z
    refine h2 v σ H _ [] R2.nilP y Pin.refl (fun a ha => by cases ha) ?_
    rw [hr]
    refine ⟨rfl, (RepM.toDat (F := Fset F i []) (P := P) r1 fun a ha z => ?_).nilP⟩
    rcases z with z | ⟨j, z⟩
    · exact R.out i a ha z
    · by_cases ej : j = i
      · subst ej; rw [Fset_same] at z; cases z
      · rw [Fset_ne ej] at z; exact ej (R.sep j i a z ha)
theorem rs_retO {e : Expr} (hp : C.pin i = false) (hr : C.rm = C.G i ∨ C.rm = .dat) (h : PE X e (tVar i)) : PS X (.Return (some e) pos) (tS C (retO i)) := PS.mono (ps_ret h) fun D σ H q => retO_run hp hr q
end
end Lk

end
section
set_option maxRecDepth 100000
set_option maxHeartbeats 4000000
/-! Lk11: walks of a slot's own list, truth, chains, calls that read. -/
namespace Lk
open PySem PySem.Spec PyProof.Rows L2 Cr
theorem hu65 {k : Nat} {A : Around} (r : Room k A) : A.units + 65 < cLine := by have := r.un; omega
section
variable {X : Cx} {C : Cc} {a b c e : Expr} {pos : Pos} {oa : Opd} {ma mb mc : M D} {r r' : R2} {g g' : D → D → Option D}
theorem tru_w {K : PySem.W.Frag} {O : Addr → Prop} {H : Hp} {d : D} {v : V} {k : Bool} (r : RepW K O H d v) (e : truth d = some k) : TruV K v H k := by
  cases d with
  | non => rw [show v = .non from r]; cases e; rfl
  | bl b => rw [show v = .bl b from r]; cases e; rfl
  | int i => rw [show v = .int i from r]; cases e; rfl
  | str s =>
    rw [show v = .str s from r]
    have e : (if s.length ≤ 1000000 then some (s.length != 0) else none) = some k := e
    split at e
    · rename_i h
      cases e
      refine ⟨szl h, ?_⟩
      cases hs : s.length with
      | zero => rfl
      | succ n =>
        have : (((n + 1 : Nat) : Int) != 0) = true := by simp; omega
        rw [this]
        simp
    · cases e
  | tup xs =>
    obtain ⟨p, vs, rfl, t, l⟩ := r
    cases e
    refine .inr (.inl ⟨vs, t.sq, ?_⟩)
    have := l.length
    cases xs <;> cases vs <;> first | rfl | simp at this
  | lst xs =>
    obtain ⟨p, vs, rfl, t, l⟩ := r
    cases e
    refine .inl ⟨vs, t, ?_⟩
    have := l.length
    cases xs <;> cases vs <;> first | rfl | simp at this
  | dct xs => exact r.elim
  | set xs => exact r.elim
theorem rt_tru (hX : X.K = C.K) (h : PE X e (tO C oa)) (he : ∀ whole, isTrue e X.env whole = (do let v ← whole; standAt e.pos; holding [v] (truthy v)) := by intro _; rfl) : PT X e (tT C (tru oa)) := by
  refine PT.mono (pt_truth h he) fun σ H Q ⟨ε, F, P, R, h⟩ => ?_
  cases oa with
  | d m =>
    refine tE.imp (gE_bd Okk.stp R h) fun v H1 ⟨d, ε1, F1, R1, y1, r1, h1⟩ => ?_
    obtain ⟨k, ek, q⟩ := h1.opt
    rw [hX]
    exact ⟨k, tru_w r1.w ek, q _ _ R1 Fr.refl⟩
  | o i =>
    obtain ⟨d, ed, h1⟩ := (Okk.stp.bd h).rd
    obtain ⟨v, hv, r⟩ := R.val i d ed
    obtain ⟨k, ek, q⟩ := (h1 _ _ R Fr.refl).opt
    refine ⟨v, hv, k, ?_, q _ _ R Fr.refl⟩
    rw [hX]
    exact tru_w r.w ek
theorem chain_run (hs : OpS C.K r g) (hs' : OpS C.K r' g') {σ : L2.St} {H : Hp} {Q : VK} (h : tE C (chain g g' ma mb mc) σ H Q) : tChain r r' (tE C ma) (tE C mb) (tE C mc) σ H Q := by
  obtain ⟨ε, F, P, R, h⟩ := h
  refine tE.imp (gE_bd Okk.stp R h) fun x H1 ⟨d1, ε1, F1, R1, y1, r1, h1⟩ => ?_
  refine tE.imp (gE_bd Okk.stp R1 h1) fun y H2 ⟨d2, ε2, F2, R2, y2, r2, h2⟩ => ?_
  obtain ⟨d3, e3, h3⟩ := (Okk.stp.bd h2).opt
  refine hs (Own F2 P) H2 x y d1 d2 d3 _ R2.dom (y2.rep r1).w r2.w e3 fun z H3 ext r3 => ?_
  have R3 := R2.grow ext
  have h4 := h3 H3 F2 R3 (Fr.ext ext)
  obtain ⟨k, ek, h5⟩ := toB_run R3 r3 h4
  refine ⟨k, ek, ?_⟩
  cases k with
  | true =>
    refine iteT (tE.imp (gE_bd Okk.stp R3 h5) fun w' H4 ⟨d4, ε4, F4, R4, y4, r4, h6⟩ => ?_)
    obtain ⟨d, ed, q⟩ := fin R4 h6
    exact hs' (Own F4 P) H4 y w' d2 d4 d _ R4.dom (((Fr.ext (F := F2) ext).trans y4).rep r2).w r4.w ed q
  | false => exact iteF (Okk.here h5 R3 _ rfl)
theorem re_chain {op op' : CmpOp} (ho : OpR X (compareOp op) r) (hs : OpS C.K r g) (ho' : OpR X (compareOp op') r') (hs' : OpS C.K r' g') (ha : PE X a (tE C ma)) (hb : PE X b (tE C mb)) (hc : PE X c (tE C mc))
    (hm : lastMarks [op, op'] [b, c] = false := by with_unfolding_all rfl) : PE X (.Compare a [op, op'] [b, c] pos) (tE C (chain g g' ma mb mc)) := PE.mono (pe_chain ho ho' ha hb hc hm) fun σ H Q h => chain_run hs hs' h
theorem rt_chain {op op' : CmpOp} (ho : OpR X (compareOp op) r) (hs : OpS C.K r g) (ho' : OpR X (compareOp op') r') (hs' : OpS C.K r' g') (ha : PE X a (tE C ma)) (hb : PE X b (tE C mb)) (hc : PE X c (tE C mc))
    (hm : lastMarks [op, op'] [b, c] = false := by with_unfolding_all rfl) : PT X (.Compare a [op, op'] [b, c] pos) (tT C (tstB (chain g g' ma mb mc))) := PT.mono (pt_chain ho ho' ha hb hc hm) fun σ H Q h => chain_run hs hs' (test_run (R := fun _ _ => True) h)
end
/-! ### a slot's own list, walked as it stands at each turn -/
section
variable {X : Cx} {C : Cc} {elt tg : Expr} {ifs : List Expr} {scope : Scope} {own : List (Str × Nat)} {pos p : Pos} {t : Tg} {c : M Bool} {x : M D} {vs : List Nat} {i : Nat} {nm : Str} {l : Expr}
theorem compO_cons {n k : Nat} {acc : List D} {e : Sl} {ys : List D} {e2 : Sl} (h : compO i vs t c x n k acc e = .ok ys e2) :
    ∃ m xs, n = m + 1 ∧ e[i]? = some (some (.lst xs)) ∧ ((xs[k]? = none ∧ ys = acc ∧ e2 = e) ∨ ∃ d e3 b e4, xs[k]? = some d ∧ t d (wipeE e vs) = some e3 ∧ c e3 = .ok b e4 ∧
      ((b = false ∧ compO i vs t c x m (k + 1) acc e4 = .ok ys e2) ∨ ∃ y e5, b = true ∧ x e4 = .ok y e5 ∧ compO i vs t c x m (k + 1) (acc ++ [y]) e5 = .ok ys e2)) := by
  cases n with
  | zero => cases h
  | succ n =>
    unfold compO at h
    simp only [bd, stT] at h
    cases er : rd i e with
    | exn c' e' => rw [er] at h; cases h
    | bad => rw [er] at h; cases h
    | ok d0 e0 =>
      obtain ⟨q, rfl⟩ := rd_ok er
      rw [er] at h
      cases d0 with
      | lst xs =>
        simp only at h
        refine ⟨n, xs, rfl, q, ?_⟩
        cases ek : xs[k]? with
        | none =>
          rw [ek] at h
          cases h
          exact .inl ⟨rfl, rfl, rfl⟩
        | some d =>
          rw [ek] at h
          simp only [bd, stT] at h
          cases e1 : t d (wipeE e0 vs) with
          | none => rw [e1] at h; cases h
          | some e3 =>
            rw [e1] at h
            simp only at h
            cases e6 : c e3 with
            | exn c' e' => rw [e6] at h; cases h
            | bad => rw [e6] at h; cases h
            | ok b e4 =>
              rw [e6] at h
              simp only at h
              refine .inr ⟨d, e3, b, e4, rfl, e1, e6, ?_⟩
              cases b with
              | false => exact .inl ⟨rfl, by simpa using h⟩
              | true =>
                simp only [if_true, bd] at h
                cases e7 : x e4 with
                | exn c' e' => rw [e7] at h; cases h
                | bad => rw [e7] at h; cases h
                | ok y e5 => rw [e7] at h; exact .inr ⟨y, e5, rfl, rfl, h⟩
      | _ => cases h
theorem lcO_run (hG : ∀ v ∈ vs, C.G v = .dat) (hi : C.G i = .ol) (hiv : i ∉ vs) {σ : L2.St} {H : Hp} {Q : VK} (h : tF C .ol (lcO i vs t c x) σ H Q) : tLc (iList C.K (tVar i)) (tG (C.blk vs) t) (tT (C.blk vs) c) (tE (C.blk vs) x) vs σ H Q := by
  obtain ⟨ε, F, P, R, h⟩ := h
  unfold lcO at h
  cases ec : compO i vs t c x 1000000 0 [] ε with
  | exn k e2 => simp only [ec] at h; exact h.elim
  | bad => simp only [ec] at h; exact h.elim
  | ok ys e2 =>
  simp only [ec] at h
  obtain ⟨m0, xs0, _, q0, _⟩ := compO_cons ec
  obtain ⟨a, vs0, ds0, ed0, hs, hF, ha, l0, hilt⟩ := R.ol hi q0
  refine ⟨.ref a, hs, a, rfl, ⟨vs0, SqL.of ha⟩, fun D hD => ?_⟩
  let P' : Addr → Prop := fun a => P a ∨ a ∈ [D]
  have hP' : P' D := .inr (List.mem_singleton.mpr rfl)
  have gP : ∀ a, P' a → P a ∨ H a = none := fun a z => z.elim .inl fun z => .inr (by rw [List.mem_singleton.mp z]; exact hD)
  have R2 : RepE C.K C.G (upd H D (.lst [])) σ ε F P' := R.ext (same_upd hD) fun a z => z.elim .inl fun z => .inr (by
    rw [List.mem_singleton.mp z]
    exact ⟨hD, by rw [upd_same]; intro z; cases z⟩)
  have hsw : (L2.wipe σ vs)[i]? = some (some (.ref a)) := by rw [wipe_get hiv]; exact hs
  have inj : ∀ {H : Hp} {us ws : List V}, H a = some (.lst us) → SqL C.K H a ws → (∃ o its n, C.K.lookup a = some o ∧ o.data = .seq its n ∧ Vals ws its.toList) ∨ us = ws := by
    intro H us ws h1 h2
    rcases h2 with (h2 | ⟨o, h2⟩) | ⟨o, its, n, h2, _, _, h3, _, h4⟩
    · rw [h1] at h2; cases h2; exact .inr rfl
    · rw [h1] at h2; cases h2
    · exact .inl ⟨o, its, n, h2, h3, h4⟩
  refine ⟨fun k m H' => ∃ e F' acc us, RepE C.K C.G H' (L2.wipe σ vs) (wipeE e vs) F' P' ∧ Fr F H F' H' ∧ H' D = some (.lst us) ∧ RepL C.K (Own F' P') H' acc us ∧ us.length ≤ k ∧ k + m = 1000000 ∧ compO i vs t c x m k acc e = .ok ys e2,
    ⟨1000000, ε, F, [], [], R2.wipe hG, Fr.ext (same_upd hD), upd_same, rfl, Nat.le_refl _, rfl, ec⟩, ?_⟩
  rintro k m H2 ⟨e3, F2, acc, us, R3, y2, hU, hL, hu, hkm, hcp⟩
  obtain ⟨n, xs, rfl, q1, q2⟩ := compO_cons hcp
  obtain ⟨a', ws, ds, ed, hs', hF', ha', l', hi'⟩ := R3.ol hi (by rw [wipeE_get hiv]; exact q1)
  have : a' = a := by rw [hsw] at hs'; cases hs'; rfl
  subst this
  cases ed
  rcases q2 with ⟨q2, rfl, rfl⟩ | ⟨d, e4, b, e5, q2, q3, q4, q5⟩
  · refine .inl ⟨⟨ws, SqL.of ha', by rw [l'.length]; exact List.getElem?_eq_none_iff.mp q2⟩, ?_⟩
    exact h (.ref D) H2 F2 [D] (RepE.rest R R3 y2 hG gP) y2 (fun a ha => by rw [List.mem_singleton.mp ha]; exact hD) ⟨D, us, _, rfl, rfl, rfl, hU, hL⟩
  · obtain ⟨v0, hv0, rv0⟩ := l'.get q2
    refine .inr ⟨⟨ws, v0, SqL.of ha', hv0⟩, fun H' => ∃ e F' acc us, RepE C.K C.G H' (L2.wipe σ vs) (wipeE e vs) F' P' ∧ Fr F H F' H' ∧ H' D = some (.lst us) ∧ RepL C.K (Own F' P') H' acc us ∧ us.length ≤ k + 1 ∧ k + 1 + n = 1000000 ∧ compO i vs t c x n (k + 1) acc e = .ok ys e2,
      fun H' nx => ⟨n, Nat.lt_succ_self n, nx⟩, fun v H3 ⟨eH, hy⟩ => ?_⟩
    subst eH
    have ev : v = v0 := Option.some.inj ((hy ws (SqL.of ha')).symm.trans hv0)
    subst ev
    refine ⟨d, wipeE e3 vs, F2, P', R3, rv0, e4, q3, fun σ4 H4 F4 R4 y4 p4 => ?_⟩
    have nD : ∀ i, D ∉ F2 i := fun i z => R3.out i D z hP'
    have nD4 : ∀ i, D ∉ F4 i := fun i z => R4.out i D z hP'
    have hU4 : H4 D = some (.lst us) := y4.keep D _ hU nD
    have y04 : Fr F H F4 H4 := y2.trans y4
    have wq : L2.wipe σ4 vs = L2.wipe σ vs := by
      rw [wipe_ext (σ := L2.wipe σ vs) p4.1 fun i m => p4.2 i (by simp [Cc.blk, m]), wipe_wipe]
    refine ⟨wq, e4, F4, P', R4, ?_⟩
    rw [q4]
    intro H5 F5 R5 y5
    have y05 := y04.trans y5
    have y25 := y4.trans y5
    have hU5 : H5 D = some (.lst us) := y5.keep D _ hU4 nD4
    have nD5 : ∀ i, D ∉ F5 i := fun i z => R5.out i D z hP'
    rcases q5 with ⟨rfl, q5⟩ | ⟨y, e6, rfl, q6, q5⟩
    · refine iteF ⟨e5, F5, acc, us, ?_, y05, hU5, y25.repL hL, by omega, by omega, q5⟩
      have := RepE.wipe (vs := vs) R5 hG
      rwa [wq] at this
    · refine iteT ⟨e5, F5, P', R5, ?_⟩
      rw [q6]
      intro H6 F6 R6 y6 u ru
      have hU6 : H6 D = some (.lst us) := y6.keep D _ hU5 nD5
      refine ⟨us, hU6, Nat.lt_of_le_of_lt (show us.length ≤ 1000000 by omega) (by decide), e6, F6, acc ++ [y], us ++ [u], ?_, (y05.trans y6).mut hD, upd_same, ?_, by simp; omega, by omega, q5⟩
      · have := RepE.wipe (vs := vs) (RepE.mutP (o := .lst (us ++ [u])) R6 hP') hG
        rwa [wq] at this
      · exact RepL.append (RepL.move (keeps_upd (.inl hP')) (fun a z => .inl z) _ _ ((y25.trans y6).repL hL)) (RepL.one (Rep.move (keeps_upd (.inl hP')) (fun a z => .inl z) _ _ ru))
theorem rf_lcO (hX : X.K = C.K) (hc : X.calm = true) (hN : X.N.Nodup) (hi : PE X l (tVar i)) (hGi : C.G i = .ol) (hiv : i ∉ vs) (ok : BlkOk X.N X.env.scope scope own) (hv : own.map (·.2) = vs) (hG : ∀ v ∈ vs, C.G v = .dat)
    (hg : ∀ (s : Shared) (H : Hp) (L : Addr) (cl : List (Str × Addr)) (fp : List Addr), PG (X.blk s H scope (compEnvC scope cl L X.env) fp) tg (tG (C.blk vs) t))
    (ht : ∀ (s : Shared) (H : Hp) (L : Addr) (cl : List (Str × Addr)) (fp : List Addr), PTs (X.blk s H scope (compEnvC scope cl L X.env) fp) ifs (tT (C.blk vs) c))
    (he : ∀ (s : Shared) (H : Hp) (L : Addr) (cl : List (Str × Addr)) (fp : List Addr), PE (X.blk s H scope (compEnvC scope cl L X.env) fp) elt (tE (C.blk vs) x))
    (hs : ∀ x, foldedSetIterable l X.env x = pure x := by intro _; rfl) : PE X (.ListComp elt [⟨tg, l, ifs, 0⟩] scope pos) (tF C .ol (lcO i vs t c x)) :=
  PE.mono (pe_lc hc hN (pi_list hi) ok hg ht he hs) fun σ H Q h => by rw [hv, hX]; exact lcO_run hG hGi hiv h
end
/-! ### calls that read what slots own and answer by a scalar -/
def reads (G : Nat → Md) : List Opd → List Md → Bool
  | [], [] => true
  | .d _ :: as, m :: ms => decide (m = .dat) && reads G as ms
  | .o i :: as, m :: ms => decide (m = .dat) && decide (G i = .ol) && reads G as ms
  | _, _ => false
section
variable {C : Cc} {σ : L2.St} {H : Hp} {F : Fp} {P : Addr → Prop} {ε : Sl} {as : List Opd} {pm : List Md} {ds : List D} {vs : List V}
theorem reads_len : ∀ {G : Nat → Md} {as : List Opd} {pm : List Md}, reads G as pm = true → as.length = pm.length ∧ (∀ k, gm pm k = .dat) ∧ ∀ i ∈ slots as, G i = .ol
  | _, [], [], _ => ⟨rfl, fun k => by simp [gm], fun i h => by cases h⟩
  | G, .d _ :: as, m :: ms, h => by
    simp only [reads, Bool.and_eq_true, decide_eq_true_eq] at h
    obtain ⟨a, b, c⟩ := reads_len h.2
    refine ⟨by simp [a], fun k => ?_, c⟩
    cases k with
    | zero => simp [gm, h.1]
    | succ k => simpa [gm] using b k
  | G, .o i :: as, m :: ms, h => by
    simp only [reads, Bool.and_eq_true, decide_eq_true_eq] at h
    obtain ⟨a, b, c⟩ := reads_len h.2
    refine ⟨by simp [a], fun k => ?_, fun j hj => ?_⟩
    · cases k with
      | zero => simp [gm, h.1.1]
      | succ k => simpa [gm] using b k
    · simp only [slots, List.mem_cons] at hj
      rcases hj with hj | hj
      · rw [hj]; exact h.1.2
      · exact c j hj
  | _, [], _ :: _, h => by simp [reads] at h
  | _, .d _ :: _, [], h => by simp [reads] at h
  | _, .o _ :: _, [], h => by simp [reads] at h
/-- what is owned beside the lists that are lent -/
def Pr (as : List Opd) (F : Fp) (P : Addr → Prop) : Addr → Prop := fun a => P a ∨ ∃ j, j ∉ slots as ∧ a ∈ F j
theorem lent (R : RepE C.K C.G H σ ε F P) (A : Ar C.K σ ε H (Own F P) as ds vs) (hf : reads C.G as pm = true) : RepE C.K (gm pm) H (vs.map some) (ds.map some) (fun _ => []) (Pr as F P) := by
  obtain ⟨h1, h2, h3⟩ := reads_len hf
  have dn : ∀ a, Own (fun _ => []) (Pr as F P) a → Own F P a := by
    rintro a ((z | ⟨j, _, z⟩) | ⟨_, z⟩)
    · exact .inl z
    · exact .inr ⟨j, z⟩
    · cases z
  have g : Grows (Own F P) (Own (fun _ => []) (Pr as F P)) H := fun a z => .inl (dn a z)
  refine ⟨by simp [A.len], fun k d e => ?_, fun k no => rfl, fun k k' a h => (by cases h), fun k a h => (by cases h), fun a z => R.dom a (dn a z)⟩
  have e' : ds[k]? = some d := by
    rw [List.getElem?_map] at e
    cases q : ds[k]? with
    | none => rw [q] at e; cases e
    | some x => rw [q] at e; simp at e; rw [e]
  obtain ⟨v, hv, q⟩ := A.get e'
  refine ⟨v, by rw [List.getElem?_map, hv]; rfl, ?_⟩
  rw [h2 k]
  refine ⟨rfl, ?_⟩
  rcases q with ⟨n, r⟩ | ⟨i, s, hs, he⟩
  · exact Rep.move Keeps.rfl' g _ _ r
  · have gi := h3 i (sl_mem s)
    obtain ⟨a, ws, xs, rfl, hs', hF, ha, l, _⟩ := R.ol gi he
    rw [hs] at hs'
    cases hs'
    refine ⟨a, ws, rfl, .inl ⟨fun z => ?_, .inl ha⟩, RepL.move Keeps.rfl' g _ _ l⟩
    rcases z with (z | ⟨j, m, z⟩) | ⟨_, z⟩
    · exact R.out i a (by rw [hF]; exact List.mem_singleton.mpr rfl) z
    · have := R.sep j i a z (by rw [hF]; exact List.mem_singleton.mpr rfl)
      subst this
      exact m (sl_mem s)
    · cases z
theorem callR_run {f : Fn} {cl : Nat → Addr} (hf : reads C.G as pm = true) {E : XK} (hE : ∀ c H', C.W c σ H' → E (.ref (cl c)) none H') {Q : VK} (h : tE C (callR f as) σ H Q) : tAs C as σ H fun vs H1 => spF C.K pm .dat cl f vs H1 Q E := by
  obtain ⟨ε, F, P, R, h⟩ := h
  refine tAs.imp _ (gopds Okk.stp R h) fun vs H1 ⟨ds, ε1, F1, R1, y1, A, h1⟩ => ?_
  refine ⟨ds, fun _ => [], Pr as F1 P, lent R1 A hf, A.len.2.trans (reads_len hf).1, ?_⟩
  cases e : f ds with
  | bad => simp only [e] at h1; exact h1.elim
  | exn c =>
    simp only [e] at h1
    exact ⟨fun _ => rfl, fun H' x => hE c H' (h1 H' F1 (R1.grow x) (Fr.ext x))⟩
  | ok d ds' =>
    simp only [e] at h1
    by_cases hs : scal d = true
    case neg => rw [if_neg hs] at h1; exact h1.elim
    rw [if_pos hs] at h1
    intro v H' F' fp R' y nf r
    have x : ∀ a o, H1 a = some o → H' a = some o := fun a o q => y.keep a o q fun i z => by cases z
    refine h1 H' F1 (R1.grow x) (Fr.ext x) v ?_
    have r2 := r.2
    cases d with
    | non => exact r2
    | bl b => exact r2
    | int b => exact r2
    | str b => exact r2
    | _ => cases hs
end
section
variable {X : Cx} {C : Cc} {e : Expr} {es : List Expr} {x : Str} {p pos : Pos} {as : List Opd} {k : Nat} {f : Addr} {fd : FuncData} {ps : List Str} {pm : List Md} {cl : Nat → Addr} {fn : Fn} {E : XK}
theorem re_callR (F : FnOk X.prog X.w X.K X.mg X.base (L2.CX X.prog X.w) k f fd ps (spF C.K pm .dat cl fn)) (hr : Room k X.A) (hg : Gl X x) (hm : X.mg x = some (.ref f)) (hk : PySem.W.keepIn X.K (.ref f) = true) (hb : Binds X.K fd ps [])
    (hx : Passes (L2.CX X.prog X.w) X E) (hE : ∀ c σ H', C.W c σ H' → E (.ref (cl c)) none H') (ha : PA X (e :: es) (tAs C as)) (hf : reads C.G as pm = true) (hdb : (x == ("__debug__" : Str)) = false := by decide)
    (he : starEach (e :: es) X.env = (false, eval e X.env) :: starEach es X.env := by rfl) (hpl : (backTo pos (starEach es X.env)).any (·.1) = false := by rfl) : PE X (.Call (.Name x p) (e :: es) [] pos) (tE C (callR fn as)) :=
  PE.mono (pe_call F hr hg hm hk hb .nil hx ha hdb he hpl) fun σ H Q h => tAs.imp _ (callR_run (E := E) hf (fun c H' => hE c σ H') h) fun vs H1 q => by rw [List.append_nil]; exact q
end
end Lk

end
section
set_option maxRecDepth 100000
set_option maxHeartbeats 4000000
/-! Lks: set(xs) of a list of ints. -/
namespace Lk
open PySem PySem.Spec PyProof.Rows L2 Cr
section
variable {P : Program} {w : World} {A : Around} {E : Value → Shared → Prop} {s : Shared}
/-- the set that has just been made -/
def mtO (w : World) : Obj := { cls := .type "set", dict := none, data := .set #[] 0 (.fresh 0 0 (!w.params.followText "set-order")) }
/-- its heap -/
def mtH (w : World) (h : Heap) : Heap := h.push (mtO w)
theorem mtH_at (w : World) (h : Heap) : (mtH w h).get? h.objs.size = some (mtO w) := Heap.get?_push_size _ rfl
theorem mtH_size (w : World) (h : Heap) : (mtH w h).objs.size = h.objs.size + 1 := Heap.size_push ..
/-- what set.__init__ leaves -/
def MadeI (w : World) (s : Shared) (ns : List Int) (v : Value) (z : Shared) : Prop :=
  v = .none ∧ ∃ g k n, z = { s with heap := g, toks := k } ∧ SetR w g s.heap.objs.size (fun j => decide (j ∈ ns)) n ∧ n ≤ ns.length ∧ ∀ b o, s.heap.get? b = some o → g.get? b = some o
theorem ints_at {its : Array Value} {ns : List Int} (hi : IntsAre its.toList ns) (hz : its.size = ns.length) {i : Nat} {v : Value} (hv : its[i]? = some v) : ∃ k t, ns[i]? = some k ∧ v = .int k t := by
  have hlt : i < ns.length := hz ▸ (Array.getElem?_eq_some_iff.mp hv).1
  obtain ⟨t, e⟩ := PyProof.Rows.IntsAre.int_at hi i v (Array.getElem?_toList ▸ hv)
  exact ⟨ns[i], t, List.getElem?_eq_getElem hlt, by rw [e, List.getD_eq_getElem?_getD, List.getElem?_eq_getElem hlt] <;> rfl⟩
theorem set_lstI {q : Addr} {its : Array Value} (ns : List Int) {Q : Value → Shared → Prop} (hd : A.handled = none) (pl : s.heap.IsList q its) (hi : IntsAre its.toList ns) (hb : ns.length + 1 < scanBound)
    (fin : ∀ (g : Heap) (k n : Nat), SetR w g s.heap.objs.size (fun j => decide (j ∈ ns)) n → n ≤ ns.length → (∀ b o, s.heap.get? b = some o → g.get? b = some o) → Q (.ref s.heap.objs.size) { s with heap := g, toks := k }) :
    wpAny (model P w) A (call (.type "set") [.ref q]) Q E s := by
  have hz : its.size = ns.length := Array.length_toList (xs := its) ▸ IntsAre.length hi
  obtain ⟨m1, m2, mro⟩ := F.called_set.mro
  have made1 := F.called_set.made
  have sub1 := F.called_set.sub
  have nt1 := F.called_set.notType
  have cc1 := F.called_set.canCreate
  have tc1 := F.typeCall_set_1 (.ref q)
  refine wpAny_call (codeAny_of_tree (show wpAny _ _ (callAny (.type "set") _) _ _ _ from wpAny_pure ⟨Code.quiet_builtin _ (by decide +kernel), codeAny_builtin F.entry_type_call ?_⟩))
  rw [Around.under_plain (weight_type_call_type "set" [.ref q] []) rfl]
  repeat (any_goals (first | assumption | wp_step))
  refine codeAny_mono (code_set_led1 (.ref q) (E := E) (Q₁ := fun o z => o = .ref s.heap.objs.size ∧ z = { s with heap := mtH w s.heap }) ⟨rfl, rfl⟩) fun r z hr => ?_
  match r, hr with
  | .error _, hr => exact hr
  | .ok (.ret o), hr =>
    obtain ⟨rfl, rfl⟩ := hr
    have me := mtH_at w s.heap
    unfold mtO at me
    have ty : Shared.TypeIs { s with heap := mtH w s.heap } (.ref s.heap.objs.size) "set" := ⟨_, mtH_at w s.heap, rfl⟩
    have il := F.called_set.init.lookup
    have ib := F.called_set.init.bind (.ref s.heap.objs.size)
    repeat (any_goals (first | assumption | wp_step))
    refine codeAny_mono (codeAny_call_builtin (R := wants (MadeI w s ns) E) F.called_set.init.plain F.entry_set_init (check_set_init_1 ty ?_)) fun r2 z2 hr2 => ?_
    · obtain ⟨⟨oc, od, ox, os⟩, hq, hcl, nl, hdl⟩ := pl
      simp only at hcl hdl
      subst hcl
      subst hdl
      have hq' : (mtH w s.heap).get? q = some { cls := .type "list", dict := od, data := .seq its nl, slots := os } := Heap.get?_push_of_some _ hq
      have s1 := F.sub_list_set
      have s2 := F.sub_list_frozenset
      have s3 : (Value.type "list" == Value.type "dict") = false := by decide
      have pl' : (mtH w s.heap).IsList q its := ⟨_, hq', rfl, nl, rfl⟩
      unfold Builtin.«set.__init__»
      unfold noKeywords
      unfold Builtin.Frozenset.updateFrom
      generalize hIt : pyIter = IT
      wp_walk
      subst hIt
      refine wpAny_pyIter_list (s := { s with heap := mtH w s.heap }) pl' ?_
      refine wpAny_bind (wpAny_runValue ?_)
      have hqs : q < s.heap.objs.size := Heap.lt_size hq
      have n1 : q ≠ (mtH w s.heap).objs.size := by rw [mtH_size]; exact Nat.ne_of_lt (Nat.lt_succ_of_lt hqs)
      have n2 : s.heap.objs.size ∉ [(mtH w s.heap).objs.size, q] := by
        rw [mtH_size]
        intro h
        rcases List.mem_cons.mp h with h | h
        · exact Nat.ne_of_lt (Nat.lt_succ_self _) h
        · exact Nat.ne_of_gt hqs (List.mem_singleton.mp h)
      refine set_update_ints ((Walks.list (by simp [hd]) _ q n1 its).toS) s.heap.objs.size n2 ns hz hb (fun i v hv => ints_at hi hz hv) (its.size - 0) 0 _ rfl (Nat.zero_le _)
        ⟨⟨_, Heap.get?_push_size _ rfl, rfl, rfl⟩, (pl'.push _)⟩ ⟨0, Nat.le_refl 0, setR_new_at (Heap.get?_push_of_some _ (mtH_at w s.heap))⟩ ?_
      intro ⟨g, g2, d', tk', os'⟩ n' hm hn' hS'
      have eg : g2 = s.gens := hm.gens
      have ed : d' = s.drawn := hm.drawn
      have eo : os' = s.os := hm.os
      subst eg ed eo
      show wpAny _ _ _ _ _ _
      refine wpAny_pure (show wpAny _ _ (ret Value.none) _ _ _ from wpAny_pure ⟨rfl, g, tk', n', rfl, hS', by rw [← hz]; exact hn', fun b o e => ?_⟩)
      have b0 : b < s.heap.objs.size := Heap.lt_size e
      refine hm.heap b o (fun h => ?_) (Heap.get?_push_of_some _ (Heap.get?_push_of_some _ e))
      rcases List.mem_cons.mp h with h | h
      · exact Nat.ne_of_lt b0 h
      · have h := List.mem_singleton.mp h
        rw [mtH_size] at h
        exact Nat.ne_of_lt (Nat.lt_succ_of_lt b0) h
    · match r2, hr2 with
      | .error _, hr2 => exact hr2
      | .ok (.ret v), hr2 =>
        obtain ⟨rfl, g, k, n, rfl, hS', hn', hk'⟩ := hr2
        repeat (any_goals (first | assumption | wp_step))
        exact fin _ _ _ hS' hn' hk'
end
/-- set(xs), a list of few ints -/
def rSetI (K : PySem.W.Frag) (w : World) : List V → Hp → VK → Prop := fun xs H Q => ∃ (a : Addr) (ns : List Int), xs = [.ref a] ∧ SqL K H a (ns.map V.int) ∧ ns.length ≤ 50 ∧ ∀ (p : Addr) (n : Nat), H p = none → n ≤ ns.length → Q (.ref p) (upd H p (SetO w p (fun j => decide (j ∈ ns)) n))
theorem cr_setI {X : Cx} (hc : X.calm = true) : CallR X (.type "set") (rSetI X.K X.w) := by
  intro pins s σ H xs us Q I r ⟨a, ns, e, hl, hf, q⟩
  subst e
  rw [Vals.ref1 r]
  obtain ⟨its, rv, pl, _⟩ := I.list hl
  have fr : H s.heap.objs.size = none := I.hok.fresh (Nat.le_refl _)
  refine set_lstI ns (I.ok.hd hc) pl.isList (ints_of_vals rv) (by unfold scanBound; omega) fun g k n R hn hk => ?_
  exact ⟨.ref s.heap.objs.size, upd H s.heap.objs.size (SetO X.w s.heap.objs.size (fun j => decide (j ∈ ns)) n), I.laid (t' := k) hk (Nat.le_refl _) (setO_new R), rfl, q _ n fr hn⟩
end Lk

end
section
set_option maxRecDepth 100000
set_option maxHeartbeats 4000000
/-! Lk12: sorts. -/
namespace Lk
open PySem PySem.Spec PyProof.Rows L2 Cr
theorem ints_back {K : PySem.W.Frag} {O : Addr → Prop} {H : Hp} : ∀ ns : List Int, RepL K O H (ns.map D.int) (ns.map V.int)
  | [] => rfl
  | n :: ns => ⟨.int n, ns.map V.int, rfl, rfl, ints_back ns⟩
theorem cn_sortI {K : PySem.W.Frag} : CallN K (rSortedI K) bSortI := fun O H vs ds d Q dm r e q => by
  unfold bSortI at e
  split at e
  · rename_i xs
    cases h : intsD xs with
    | none => rw [h] at e; cases e
    | some ns =>
      rw [h] at e
      cases e
      obtain ⟨v, rfl, a, us, rfl, t, l⟩ := wl1 r
      rw [intsD_rep h l] at t
      refine ⟨a, ns, rfl, t, fun ns' p hp hw hn => ?_⟩
      have : ns' = isort ns := pw_le_eq (hp.trans (isort_perm ns).symm) hw (isort_pw ns)
      subst this
      exact q p _ _ rfl hn (ints_back _)
  · cases e
section
variable {X : Cx} {C : Cc} {e : Expr} {p q1 q2 pos : Pos} {o : Opd}
theorem rf_sortset (hX : X.K = C.K) (hc : X.calm = true) (hg1 : Gl X "sorted") (hm1 : X.mg "sorted" = none) (hg2 : Gl X "set") (hm2 : X.mg "set" = none) (h : PE X e (tO C o))
    (he : starEach (e :: []) X.env = (false, eval e X.env) :: starEach [] X.env := by rfl)
    (he2 : starEach (.Call (.Name "set" p) [e] [] q1 :: []) X.env = (false, eval (.Call (.Name "set" p) [e] [] q1) X.env) :: starEach [] X.env := by rfl) :
    PE X (.Call (.Name "sorted" q2) [.Call (.Name "set" p) [e] [] q1] [] pos) (tF C .ol (callB bSetI [o])) := by
  refine PE.mono (pe_callB (cr_sortedSet hc) hg1 hm1 (by decide +kernel) (pa_cons (pe_callTy (cr_setI hc) hg2 hm2 (by decide +kernel) (pa_cons h pa_nil he) (by decide) (by decide) he (by rfl)) pa_nil he2) (by decide) (by decide) he2 (by rfl)) fun σ H Q h => ?_
  obtain ⟨ε, F, P, R, h⟩ := h
  have a := gopds OkF.stp R h
  show (tAs C [o]) σ H fun vs H1 => rSetI X.K X.w vs H1 _
  refine tAs.imp _ a fun vs H1 ⟨ds, ε1, F1, R1, y1, A, h1⟩ => ?_
  obtain ⟨d, e1, q⟩ := OkF.opt h1
  have w := A.wl R1
  unfold bSetI at e1
  split at e1
  · rename_i xs
    split at e1
    · rename_i ns hi
      split at e1
      · rename_i h50
        cases e1
        obtain ⟨v, rfl, a, us, rfl, t, l⟩ := wl1 w
        rw [intsD_rep hi l] at t
        rw [hX]
        refine ⟨a, ns, rfl, t, h50, fun p n hp hn => ?_⟩
        refine ⟨p, _, n, rfl, upd_same, by omega, fun ns' p2 hw hm hl hp2 => ?_⟩
        have e2 : ns' = usort ns := pw_lt_eq (fun z => by rw [hm z, usort_mem]; simp) hw (usort_pw ns)
        subst e2
        have ext := same_upd (o := SetO X.w p (fun j => decide (j ∈ ns)) n) hp
        exact finF (R1.grow ext) (OkF.stp.step _ _ _ _ _ q (Fr.ext ext)) rfl (ints_back _) hp2
      · cases e1
    · cases e1
  · cases e1
end
end Lk

end
section
set_option maxRecDepth 100000
set_option maxHeartbeats 4000000
/-! Lk13: the head's facts, with Bools of one's own. -/
namespace Lk
open PySem PySem.Spec PyProof.Rows L2 Cr
def obsZ (n : Nat) (fa : List He.Fa) (fn : List He.DefD) (ex : PySem.W.Frag → Bool) (g : Addr → Option Obj) : He.AlD × Bool := (He.obsD fa fn (He.frG g (He.asD g n)), ex (He.frG g (He.asD g n)))
def hookZ (n : Nat) (fa : List He.Fa) (fn : List He.DefD) (ex : PySem.W.Frag → Bool) : PySem.W.Hook where
  α := He.AlD × Bool
  obs := fun s => obsZ n fa fn ex s.heap.get?
  val := fun _ => (He.valD fn, true)
  says := fun _ h => ∃ K : PySem.W.Frag, K.In h ∧ He.SaysD fa fn K ∧ ex K = true
  of := fun _ _ e => ⟨_, He.frG_in, congrArg Prod.fst e, congrArg Prod.snd e⟩
  keeps := fun _ _ _ ⟨K, hK, c⟩ k => ⟨K, PySem.W.Frag.In.keeps hK k, c⟩
theorem obsZ_eq {n : Nat} {fa : List He.Fa} {fn : List He.DefD} {ex : PySem.W.Frag → Bool} {g : Addr → Option Obj} {s : Shared} (h : ∀ a, g a = s.heap.get? a) : obsZ n fa fn ex g = (hookZ n fa fn ex).obs s := by
  rw [show g = s.heap.get? from funext h] <;> rfl
theorem exAt {l : List Bool} (h : l.all id = true) (i : Nat) {b : Bool} (e : l[i]? = some b) : b = true := List.all_eq_true.mp h b (List.mem_of_getElem? e)
/-- a written tuple of scalars -/
theorem tup_rep {K : PySem.W.Frag} {a : Addr} {ds : List D} {vs : List V} (h : ∀ H : Hp, SqT K H a vs) (l : ∀ O H, RepL K O H ds vs) : ∀ O H, Rep K O H (.tup ds) (.ref a) := fun O H => by
  refine ⟨a, vs, rfl, ?_, l O H⟩
  rcases h (fun _ => none) with (q | ⟨o, q⟩) | q
  · cases q
  · cases q
  · exact .inr q
end Lk
namespace Lk
open PySem PySem.Spec PyProof.Rows L2 Cr
/-- a def that, wished to raise nothing, raises nothing -/
theorem FnOk.calm {P : Program} {w : World} {K : PySem.W.Frag} {mg : Str → Option Value} {base : Heap} {k : Nat} {f : Addr} {fd : FuncData} {ps : List Str} {sp : Sp} (F : FnOk P w K mg base (L2.CX P w) k f fd ps sp) :
    FnOk P w K mg base CX0 k f fd ps (fun vs H Q _ => sp vs H Q E0) := by
  refine ⟨fun vs H Q E h => F.len vs H Q E0 h, fun A outer s H args us vs Q E hr e0 hb r h => ?_⟩
  refine codeAny_mono (F.run A outer s H args us vs Q E0 hr e0 hb r h) fun x s' hx => ?_
  cases x with
  | error e =>
    have hx' : L2.CX P w outer H s E0 e s' := hx
    unfold L2.CX at hx'
    obtain ⟨_, _, _, _, _, _, _, _, _, _, _, _, z⟩ := hx'
    exact z.elim
  | ok fl =>
    cases fl with
    | ret u => exact hx
    | next => exact hx
    | brk => exact hx
    | cont => exact hx
/-- the law's own def: the script in, True out -/
theorem sp_law {K : PySem.W.Frag} {cl : Nat → Addr} {f : Fn} {a : Addr} {ns : List Int} {H : Hp} {ds : List D} (hO : Only H) (hS : SqL K H a (ns.map V.int)) (e : f [.lst (ns.map .int)] = .ok (.bl true) ds) :
    spF K [.dat] .dat cl f [.ref a] H (fun v _ => v = .bl true) E0 := by
  refine ⟨[.lst (ns.map .int)], fun _ => [], fun _ => False, ⟨rfl, fun i d q => ?_, fun _ _ => rfl, fun i j b h => (by cases h), fun i b h => (by cases h), fun b z => ?_⟩, rfl, ?_⟩
  · cases i with
    | zero =>
      cases q
      refine ⟨_, rfl, rfl, a, ns.map V.int, rfl, ?_, ints_back ns⟩
      rcases hS with h | h
      · exact .inl ⟨fun z => z.elim (fun z => z) (fun ⟨_, z⟩ => by cases z), h⟩
      · exact .inr h
    | succ i => simp at q
  · rcases z with z | ⟨_, z⟩
    · exact z.elim
    · cases z
  · rw [e]
    exact fun v H' F' fp R y n r => r.2
end Lk

end
section
/-! Ev: how the plain functions are evaluated. -/
namespace Cr
open PySem (Str)
def bnd {α β : Type} (o : Out α) (k : α → Sl → Out β) : Out β := match o with
  | .ok a e => k a e
  | .exn c e => .exn c e
  | .bad => .bad
section
variable {α β : Type}
theorem bd_e (m : M α) (f : α → M β) (e : Sl) : bd m f e = bnd (m e) f := by
  unfold bd bnd
  cases m e <;> rfl
theorem bnd_ok (a : α) (e : Sl) (k : α → Sl → Out β) : bnd (.ok a e) k = k a e := rfl
theorem bnd_exn (c : Nat) (e : Sl) (k : α → Sl → Out β) : bnd (.exn c e) k = .exn c e := rfl
theorem bnd_bad (k : α → Sl → Out β) : bnd (.bad) k = .bad := rfl
theorem bd_ok {m : M α} {f : α → M β} {e e1 : Sl} {a : α} (h : m e = .ok a e1) : bd m f e = f a e1 := by rw [bd_e, h]; rfl
theorem bd_exn {m : M α} {f : α → M β} {e e1 : Sl} {c : Nat} (h : m e = .exn c e1) : bd m f e = .exn c e1 := by rw [bd_e, h]; rfl
theorem pu_e (a : α) (e : Sl) : pu a e = .ok a e := rfl
theorem opt_some (a : α) (e : Sl) : opt (some a) e = .ok a e := rfl
end
theorem seq_nx {a b : S} {e e1 : Sl} (h : a e = .ok .nx e1) : seqS a b e = b e1 := by
  unfold seqS; rw [bd_ok h]
theorem seq_rt {a b : S} {e e1 : Sl} {d : D} (h : a e = .ok (.rt d) e1) : seqS a b e = .ok (.rt d) e1 := by
  unfold seqS; rw [bd_ok h]; rfl
theorem if_t {t : M Bool} {a b : S} {e e1 : Sl} (h : t e = .ok true e1) : ifS t a b e = a e1 := by
  unfold ifS; rw [bd_ok h]; rfl
theorem if_f {t : M Bool} {a b : S} {e e1 : Sl} (h : t e = .ok false e1) : ifS t a b e = b e1 := by
  unfold ifS; rw [bd_ok h]; rfl
theorem asg_ok {m : M D} {i : Nat} {e e1 : Sl} {d : D} (h : m e = .ok d e1) (hi : i < e1.length) : asg m (tgN i) e = .ok .nx (e1.set i (some d)) := by
  unfold asg; rw [bd_ok h]; unfold stT tgN; rw [if_pos hi]
theorem ret_ok {m : M D} {e e1 : Sl} {d : D} (h : m e = .ok d e1) : retS m e = .ok (.rt d) e1 := by
  unfold retS; rw [bd_ok h]; rfl
/-! ### weakest promises -/
def WP {α : Type} (o : Out α) (Q : α → Sl → Prop) : Prop := ∃ a e, o = .ok a e ∧ Q a e
theorem wp_i {α : Type} {o : Out α} {a : α} {e : Sl} {Q : α → Sl → Prop} (h : o = .ok a e) (q : Q a e) : WP o Q := ⟨a, e, h, q⟩
theorem seq_step {a b : S} {e e1 : Sl} {Q : Fl → Sl → Prop} (h : a e = .ok .nx e1) (h2 : WP (b e1) Q) : WP (seqS a b e) Q := by
  obtain ⟨x, e2, p, q⟩ := h2
  exact ⟨x, e2, by rw [seq_nx h]; exact p, q⟩
theorem seq_wp {a b : S} {e : Sl} {Q : Fl → Sl → Prop} (h : WP (a e) fun f e1 => f = .nx ∧ WP (b e1) Q) : WP (seqS a b e) Q := by
  obtain ⟨x, e2, p, rfl, q⟩ := h
  exact seq_step p q
theorem asg_wp {m : M D} {i : Nat} {e : Sl} {Q : Fl → Sl → Prop} (h : WP (m e) fun d e1 => i < e1.length ∧ Q .nx (e1.set i (some d))) : WP (asg m (tgN i) e) Q := by
  obtain ⟨x, e2, p, hi, q⟩ := h
  exact ⟨_, _, asg_ok p hi, q⟩
theorem ret_wp {m : M D} {e : Sl} {Q : Fl → Sl → Prop} (h : WP (m e) fun d e1 => Q (.rt d) e1) : WP (retS m e) Q := by
  obtain ⟨x, e2, p, q⟩ := h
  exact ⟨_, _, ret_ok p, q⟩
theorem if_wp {t : M Bool} {a b : S} {e e1 : Sl} {c : Bool} {Q : Fl → Sl → Prop} (h : t e = .ok c e1) (q : WP ((if c = true then a else b) e1) Q) : WP (ifS t a b e) Q := by
  obtain ⟨x, e2, p, q⟩ := q
  cases c
  · exact ⟨x, e2, by rw [if_f h]; exact p, q⟩
  · exact ⟨x, e2, by rw [if_t h]; exact p, q⟩
theorem seq_if_f {t : M Bool} {a b : S} {e e1 : Sl} {Q : Fl → Sl → Prop} (h : t e = .ok false e1) (q : WP (b e1) Q) : WP (seqS (ifS t a nx) b e) Q := seq_step (if_f h) q
theorem wp_mono {α : Type} {o : Out α} {Q Q' : α → Sl → Prop} (h : WP o Q) (hq : ∀ a e, Q a e → Q' a e) : WP o Q' := by
  obtain ⟨a, e, p, q⟩ := h
  exact ⟨a, e, p, hq _ _ q⟩
theorem fn_wp {own : List Bool} {fall : Bool} {n : Nat} {b : S} {ds : List D} {P : D → List D → Prop} (h : WP (b (ds.map some ++ List.replicate (n - ds.length) none)) fun f e => ∃ d r, f = .rt d ∧ finM own ds e = some r ∧ P d r) : ∃ d r, fnOf own fall n b ds = .ok d r ∧ P d r := by
  obtain ⟨x, e, p, d, r, rfl, q, w⟩ := h
  exact ⟨d, r, by unfold fnOf; simp only [p, q], w⟩
theorem fn_ret {own : List Bool} {fall : Bool} {n : Nat} {b : S} {ds r : List D} {d : D} {e : Sl} (h : b (ds.map some ++ List.replicate (n - ds.length) none) = .ok (.rt d) e) (hf : finM own ds e = some r) : fnOf own fall n b ds = .ok d r := by
  unfold fnOf; simp only [h, hf]
theorem rd_ok' {i : Nat} {e : Sl} {d : D} (h : e[i]? = some (some d)) : rd i e = .ok d e := by unfold rd; rw [h]
/-! ### comprehensions that change nothing -/
theorem lc1 {i : Nat} {it : M (List D)} {c : M Bool} {x : M D} {e : Sl} {ds : List D} (p : D → Bool) (g : D → D) (hi : i < e.length) (hit : it e = .ok ds e) (hl : ds.length ≤ 1000000)
    (ht : ∀ d ∈ ds, c (e.set i (some d)) = .ok (p d) (e.set i (some d)) ∧ (p d = true → x (e.set i (some d)) = .ok (g d) (e.set i (some d)))) :
    lcE [i] it (tgN i) c x e = .ok (.lst ((ds.filter p).map g)) e := by
  have w : ∀ d : Option D, wipeE (e.set i d) [i] = e.set i none := fun d => by simp [wipeE]
  have key : ∀ (ds : List D), (∀ d ∈ ds, c (e.set i (some d)) = .ok (p d) (e.set i (some d)) ∧ (p d = true → x (e.set i (some d)) = .ok (g d) (e.set i (some d)))) → ∀ (acc : List D) (e' : Sl), wipeE e' [i] = e.set i none → e'.length = e.length →
      ∃ e2, compL [i] (tgN i) c x ds acc e' = .ok (acc ++ (ds.filter p).map g) e2 ∧ wipeE e2 [i] = e.set i none ∧ e2.length = e.length := by
    intro ds
    induction ds with
    | nil => intro _ acc e' h1 h2; exact ⟨e', by simp [compL, pu], h1, h2⟩
    | cons d ds ih =>
      intro h acc e' h1 h2
      obtain ⟨hc, hx⟩ := h d List.mem_cons_self
      have ih' := ih fun d' hd => h d' (List.mem_cons_of_mem _ hd)
      unfold compL
      rw [bd_ok (e1 := e.set i none) (a := ()) (by rw [h1]), bd_ok (e1 := e.set i (some d)) (a := ()) (by simp [stT, tgN, hi]), bd_ok hc]
      cases hp : p d with
      | false =>
        obtain ⟨e2, q1, q2, q3⟩ := ih' acc (e.set i (some d)) (w _) (by simp)
        exact ⟨e2, by simp [hp, q1], q2, q3⟩
      | true =>
        obtain ⟨e2, q1, q2, q3⟩ := ih' (acc ++ [g d]) (e.set i (some d)) (w _) (by simp)
        refine ⟨e2, ?_, q2, q3⟩
        rw [if_pos rfl, bd_ok (hx hp), q1]
        simp [hp]
  obtain ⟨e2, q1, q2, q3⟩ := key ds ht [] e (by simp [wipeE]) rfl
  unfold lcE
  rw [bd_ok hit]
  simp only [q1, List.nil_append]
  rw [if_pos hl]
  congr 1
  have : restE e e2 [i] = e2.set i (e[i]?.getD none) := rfl
  rw [this]
  have q2' : e2.set i none = e.set i none := q2
  apply List.ext_getElem?
  intro j
  by_cases ej : j = i
  · subst ej
    rw [List.getElem?_set_self (by omega), List.getElem?_eq_getElem hi]
    rfl
  · have := congrArg (fun l : Sl => l[j]?) q2'
    simp only [List.getElem?_set_ne (Ne.symm ej)] at this
    rw [List.getElem?_set_ne (Ne.symm ej), this]
/-- .. that may change what owns: each turn keeps I and gives an item of Q -/
theorem lcI {i : Nat} {it : M (List D)} {x : M D} {e : Sl} {ds : List D} (I : Sl → Prop) (Q : D → Prop) (hit : it e = .ok ds e) (hl : ds.length ≤ 1000000) (hI : I (wipeE e [i])) (hn : ∀ e', I e' → e'.length = e.length)
    (hi : i < e.length) (ht : ∀ d ∈ ds, ∀ e', I e' → ∃ y e2, x (e'.set i (some d)) = .ok y e2 ∧ Q y ∧ I (wipeE e2 [i])) (hw : ∀ e', I e' → wipeE e' [i] = e') :
    ∃ ys e2, lcE [i] it (tgN i) (pu true) x e = .ok (.lst ys) (e2.set i (e[i]?.getD none)) ∧ I (wipeE e2 [i]) ∧ (∀ y ∈ ys, Q y) ∧ ys.length = ds.length := by
  have key : ∀ (ds : List D), (∀ d ∈ ds, ∀ e', I e' → ∃ y e2, x (e'.set i (some d)) = .ok y e2 ∧ Q y ∧ I (wipeE e2 [i])) → ∀ (acc : List D) (e' : Sl), I (wipeE e' [i]) →
      ∃ ys e2, compL [i] (tgN i) (pu true) x ds acc e' = .ok (acc ++ ys) e2 ∧ I (wipeE e2 [i]) ∧ (∀ y ∈ ys, Q y) ∧ ys.length = ds.length := by
    intro ds
    induction ds with
    | nil => intro _ acc e' h1; exact ⟨[], e', by simp [compL, pu], h1, by simp, rfl⟩
    | cons d ds ih =>
      intro h acc e' h1
      obtain ⟨y, e2, q1, q2, q3⟩ := h d List.mem_cons_self _ h1
      obtain ⟨ys, e3, r1, r2, r3, r4⟩ := ih (fun d' hd => h d' (List.mem_cons_of_mem _ hd)) (acc ++ [y]) e2 q3
      refine ⟨y :: ys, e3, ?_, r2, fun z hz => ?_, by simp [r4]⟩
      · unfold compL
        have hlen : i < (wipeE e' [i]).length := by rw [hn _ h1]; exact hi
        rw [bd_ok (m := fun e => Out.ok () (wipeE e [i])) (e1 := wipeE e' [i]) (a := ()) rfl, bd_ok (e1 := (wipeE e' [i]).set i (some d)) (a := ()) (by simp only [stT, tgN, if_pos hlen]), bd_ok (pu_e true _), if_pos rfl, bd_ok q1, r1]
        simp
      · rcases List.mem_cons.mp hz with e | e
        · rw [e]; exact q2
        · exact r3 z e
  obtain ⟨ys, e2, q1, q2, q3, q4⟩ := key ds ht [] e hI
  refine ⟨ys, e2, ?_, q2, q3, q4⟩
  unfold lcE
  rw [bd_ok hit]
  simp only [q1, List.nil_append]
  rw [if_pos hl]
  rfl
/-! ### for -/
theorem for_inv {it : M (List D)} {i : Nat} {b : S} {e : Sl} {ds : List D} (I : Nat → Sl → Prop) (hit : it e = .ok ds e) (h0 : I 0 e) (hi : ∀ k e', I k e' → i < e'.length)
    (ht : ∀ k d e', ds[k]? = some d → I k e' → ∃ e2, b (e'.set i (some d)) = .ok .nx e2 ∧ I (k + 1) e2) : ∃ e2, forS it (tgN i) b e = .ok .nx e2 ∧ I ds.length e2 := by
  have key : ∀ (n k : Nat) (e' : Sl), k + n = ds.length → I k e' → ∃ e2, loop (tgN i) b (ds.drop k) e' = .ok .nx e2 ∧ I ds.length e2 := by
    intro n
    induction n with
    | zero =>
      intro k e' hk h
      have : k = ds.length := by omega
      subst this
      exact ⟨e', by simp [loop, nx, pu], h⟩
    | succ n ih =>
      intro k e' hk h
      have hlt : k < ds.length := by omega
      rw [List.drop_eq_getElem_cons hlt]
      obtain ⟨e2, q1, q2⟩ := ht k ds[k] e' (List.getElem?_eq_getElem hlt) h
      obtain ⟨e3, r1, r2⟩ := ih (k + 1) e2 (by omega) q2
      refine ⟨e3, ?_, r2⟩
      unfold loop
      rw [bd_ok (e1 := e'.set i (some ds[k])) (a := ()) (by simp [stT, tgN, hi k e' h]), bd_ok q1]
      exact r1
  obtain ⟨e2, q1, q2⟩ := key ds.length 0 e (by omega) h0
  exact ⟨e2, by unfold forS; rw [bd_ok hit]; simpa using q1, q2⟩
end Cr

end
section
/-! Evs: the plain functions' equations, for simp. -/
namespace Cr
open PySem (Str)
section
variable {α β : Type} (e : Sl)
@[simp] theorem s_bd (m : M α) (f : α → M β) : bd m f e = match m e with
  | .ok a e1 => f a e1
  | .exn c e1 => .exn c e1
  | .bad => .bad := (rfl)
@[simp] theorem s_pu (a : α) : pu a e = .ok a e := (rfl)
@[simp] theorem s_os (a : α) : opt (some a) e = .ok a e := (rfl)
@[simp] theorem s_on : opt (none : Option α) e = .bad := (rfl)
@[simp] theorem s_badM : (badM : M α) e = .bad := (rfl)
@[simp] theorem s_raise (c : Nat) : (raise c : M α) e = .exn c e := (rfl)
@[simp] theorem s_rd (i : Nat) : rd i e = match e[i]? with
  | some (some d) => .ok d e
  | _ => .bad := (rfl)
@[simp] theorem s_wr (i : Nat) (d : D) : wr i d e = if i < e.length then .ok () (e.set i (some d)) else .bad := (rfl)
@[simp] theorem s_clr (i : Nat) : clr i e = .ok () (e.set i none) := (rfl)
@[simp] theorem s_stT (o : Sl → Option Sl) (a : α) : stT o a e = match o e with
  | some e' => .ok a e'
  | none => .bad := (rfl)
@[simp] theorem s_cst (d : D) : cst d e = .ok d e := (rfl)
end
@[simp] theorem s_tgN (i : Nat) (d : D) (e : Sl) : tgN i d e = if i < e.length then some (e.set i (some d)) else none := (rfl)
@[simp] theorem s_bdd (g : D → D → Option D) (a b : M D) (e : Sl) : bin g (.d a) (.d b) e = (bd a fun x => bd b fun y => opt (g x y)) e := (rfl)
@[simp] theorem s_bod (g : D → D → Option D) (i : Nat) (b : M D) (e : Sl) : bin g (.o i) (.d b) e = (bd (rd i) fun _ => bd b fun y => bd (rd i) fun x => opt (g x y)) e := (rfl)
@[simp] theorem s_bdo (g : D → D → Option D) (a : M D) (j : Nat) (e : Sl) : bin g (.d a) (.o j) e = (bd a fun x => bd (rd j) fun y => opt (g x y)) e := (rfl)
@[simp] theorem s_boo (g : D → D → Option D) (i j : Nat) (e : Sl) : bin g (.o i) (.o j) e = (bd (rd i) fun x => bd (rd j) fun y => opt (g x y)) e := (rfl)
@[simp] theorem s_ud (g : D → Option D) (a : M D) (e : Sl) : un g (.d a) e = (bd a fun x => opt (g x)) e := (rfl)
@[simp] theorem s_uo (g : D → Option D) (i : Nat) (e : Sl) : un g (.o i) e = (bd (rd i) fun x => opt (g x)) e := (rfl)
@[simp] theorem s_toB (b : Bool) (e : Sl) : toB (.bl b) e = (pu b) e := (rfl)
@[simp] theorem s_tstB (m : M D) (e : Sl) : tstB m e = (bd m toB) e := (rfl)
@[simp] theorem s_trud (a : M D) (e : Sl) : tru (.d a) e = (bd a fun x => opt (truth x)) e := (rfl)
@[simp] theorem s_truo (i : Nat) (e : Sl) : tru (.o i) e = (bd (rd i) fun x => opt (truth x)) e := (rfl)
@[simp] theorem s_andT (a b : M Bool) (e : Sl) : andT a b e = (bd a fun x => if x = true then b else pu false) e := (rfl)
@[simp] theorem s_orT (a b : M Bool) (e : Sl) : orT a b e = (bd a fun x => if x = true then pu true else b) e := (rfl)
@[simp] theorem s_notT (a : M Bool) (e : Sl) : notT a e = (bd a fun x => pu (!x)) e := (rfl)
@[simp] theorem s_andV (a b : M D) (e : Sl) : andV a b e = (bd a fun x => bd (toB x) fun c => if c = true then b else pu (.bl false)) e := (rfl)
@[simp] theorem s_orV (a b : M D) (e : Sl) : orV a b e = (bd a fun x => bd (toB x) fun c => if c = true then pu (.bl true) else b) e := (rfl)
@[simp] theorem s_notV (a : M D) (e : Sl) : notV a e = (bd a fun x => bd (toB x) fun c => pu (.bl (!c))) e := (rfl)
@[simp] theorem s_ifE (t : M Bool) (a b : M D) (e : Sl) : ifE t a b e = (bd t fun x => if x = true then a else b) e := (rfl)
@[simp] theorem s_chain (g g' : D → D → Option D) (a b c : M D) (e : Sl) : chain g g' a b c e = (bd a fun x => bd b fun y => bd (opt (g x y)) fun r => bd (toB r) fun k => if k = true then bd c fun z => opt (g' y z) else pu (.bl false)) e := (rfl)
@[simp] theorem s_seq0 (e : Sl) : seqE [] e = (pu []) e := (rfl)
@[simp] theorem s_seq1 (m : M D) (ms : List (M D)) (e : Sl) : seqE (m :: ms) e = (bd m fun x => bd (seqE ms) fun xs => pu (x :: xs)) e := (rfl)
@[simp] theorem s_tupE (ms : List (M D)) (e : Sl) : tupE ms e = (bd (seqE ms) fun xs => pu (.tup xs)) e := (rfl)
@[simp] theorem s_lstE (ms : List (M D)) (e : Sl) : lstE ms e = (bd (seqE ms) fun xs => pu (.lst xs)) e := (rfl)
@[simp] theorem s_p10 (e : Sl) : ph1 [] e = (pu []) e := (rfl)
@[simp] theorem s_p1d (m : M D) (r : List Opd) (e : Sl) : ph1 (.d m :: r) e = (bd m fun x => bd (ph1 r) fun xs => pu (x :: xs)) e := (rfl)
@[simp] theorem s_p1o (i : Nat) (r : List Opd) (e : Sl) : ph1 (.o i :: r) e = (bd (rd i) fun _ => ph1 r) e := (rfl)
@[simp] theorem s_p20 (xs : List D) (e : Sl) : ph2 [] xs e = (pu []) e := (rfl)
@[simp] theorem s_p2d (m : M D) (r : List Opd) (x : D) (xs : List D) (e : Sl) : ph2 (.d m :: r) (x :: xs) e = (bd (ph2 r xs) fun ys => pu (x :: ys)) e := (rfl)
@[simp] theorem s_p2o (i : Nat) (r : List Opd) (xs : List D) (e : Sl) : ph2 (.o i :: r) xs e = (bd (rd i) fun y => bd (ph2 r xs) fun ys => pu (y :: ys)) e := by cases xs <;> rfl
@[simp] theorem s_opds (as : List Opd) (e : Sl) : opds as e = (bd (ph1 as) fun xs => ph2 as xs) e := (rfl)
@[simp] theorem s_callB (g : List D → Option D) (as : List Opd) (e : Sl) : callB g as e = (bd (opds as) fun xs => opt (g xs)) e := (rfl)
@[simp] theorem s_b0 (xs : List D) (e : Sl) : back [] xs e = (pu ()) e := (rfl)
@[simp] theorem s_bd' (m : M D) (r : List Opd) (x : D) (xs : List D) (e : Sl) : back (.d m :: r) (x :: xs) e = (back r xs) e := (rfl)
@[simp] theorem s_bo (i : Nat) (r : List Opd) (x : D) (xs : List D) (e : Sl) : back (.o i :: r) (x :: xs) e = (bd (wr i x) fun _ => back r xs) e := (rfl)
@[simp] theorem s_sl0 : slots [] = [] := (rfl)
@[simp] theorem s_sld (m : M D) (r : List Opd) : slots (.d m :: r) = slots r := (rfl)
@[simp] theorem s_slo (i : Nat) (r : List Opd) : slots (.o i :: r) = i :: slots r := (rfl)
@[simp] theorem s_callF (f : Fn) (as : List Opd) (e : Sl) : callF f as e = (bd (opds as) fun xs => fun e => match f xs with
  | .ok d ds => bd (back as ds) (fun _ => pu d) e
  | .exn c => if slots as = [] then .exn c e else .bad
  | .bad => .bad) e := (rfl)
@[simp] theorem s_callR (f : Fn) (as : List Opd) (e : Sl) : callR f as e = (bd (opds as) fun xs => fun e => match f xs with
  | .ok d _ => if scal d = true then .ok d e else .bad
  | .exn c => .exn c e
  | .bad => .bad) e := (rfl)
@[simp] theorem s_nx (e : Sl) : nx e = .ok .nx e := (rfl)
@[simp] theorem s_seqS (a b : S) (e : Sl) : seqS a b e = (bd a fun f => match f with
  | .nx => b
  | f => pu f) e := (rfl)
@[simp] theorem s_ifS (t : M Bool) (a b : S) (e : Sl) : ifS t a b e = (bd t fun x => if x = true then a else b) e := (rfl)
@[simp] theorem s_exprS (m : M D) (e : Sl) : exprS m e = (bd m fun _ => nx) e := (rfl)
@[simp] theorem s_retS (m : M D) (e : Sl) : retS m e = (bd m fun d => pu (.rt d)) e := (rfl)
@[simp] theorem s_retO (i : Nat) (e : Sl) : retO i e = (bd (rd i) fun d => bd (clr i) fun _ => pu (.rt d)) e := (rfl)
@[simp] theorem s_asg (m : M D) (t : Tg) (e : Sl) : asg m t e = (bd m fun d => stT (t d) .nx) e := (rfl)
@[simp] theorem s_itE (m : M D) (e : Sl) : itE m e = (bd m fun d => opt (items d)) e := (rfl)
@[simp] theorem s_itR (g : List D → Option (List D)) (as : List Opd) (e : Sl) : itR g as e = (bd (opds as) fun ds => opt (g ds)) e := (rfl)
@[simp] theorem s_itl (xs : List D) : items (.lst xs) = some xs := (rfl)
@[simp] theorem s_itt (xs : List D) : items (.tup xs) = some xs := (rfl)
@[simp] theorem s_appS (i : Nat) (m : M D) (e : Sl) : appS i m e = (bd (rd i) fun _ => bd m fun y => bd (rd i) fun d => match d with
  | .lst xs => if xs.length < LIM then bd (wr i (.lst (xs ++ [y]))) fun _ => nx else badM
  | _ => badM) e := (rfl)
@[simp] theorem s_setS (i : Nat) (k m : M D) (e : Sl) : setS i k m e = (bd m fun y => bd (rd i) fun _ => bd k fun kd => bd (rd i) fun d => match d, kd with
  | .lst xs, .int j => (match Cr.ixN xs.length j with
    | some n => bd (wr i (.lst (xs.set n y))) fun _ => nx
    | none => badM)
  | _, _ => badM) e := (rfl)
/-! ### operators -/
@[simp] theorem s_gEq (i j : Int) : gEq (.int i) (.int j) = some (.bl (i == j)) := (rfl)
@[simp] theorem s_gNe (i j : Int) : gNe (.int i) (.int j) = some (.bl (!(i == j))) := (rfl)
@[simp] theorem s_gLt (i j : Int) : gLt (.int i) (.int j) = some (.bl (decide (i < j))) := (rfl)
@[simp] theorem s_gLe (i j : Int) : gLe (.int i) (.int j) = some (.bl (decide (i ≤ j))) := (rfl)
@[simp] theorem s_gGt (i j : Int) : gGt (.int i) (.int j) = some (.bl (decide (j < i))) := (rfl)
@[simp] theorem s_gGe (i j : Int) : gGe (.int i) (.int j) = some (.bl (decide (j ≤ i))) := (rfl)
@[simp] theorem s_gAdd (i j : Int) : gAdd (.int i) (.int j) = some (.int (i + j)) := (rfl)
@[simp] theorem s_gSub (i j : Int) : gSub (.int i) (.int j) = some (.int (i - j)) := (rfl)
def sm (i : Int) : Prop := -(2 ^ 64) < i ∧ i < 2 ^ 64
instance (i : Int) : Decidable (sm i) := inferInstanceAs (Decidable (_ ∧ _))
theorem sm_of {i : Int} (h : -1000000000000 ≤ i) (h' : i ≤ 1000000000000) : sm i := by unfold sm; omega
@[simp] theorem sm_a : sm 48271 := sm_of (by decide) (by decide)
@[simp] theorem sm_b : sm 69621 := sm_of (by decide) (by decide)
@[simp] theorem s_gMul (i j : Int) : gMul (.int i) (.int j) = if sm i ∨ sm j then some (.int (i * j)) else none := (rfl)
@[simp] theorem s_gFdv (i j : Int) : gFdv (.int i) (.int j) = if 0 < j ∧ j < 1073741824 then some (.int (i / j)) else none := (rfl)
@[simp] theorem s_gMod (i j : Int) : gMod (.int i) (.int j) = if 0 < j then some (.int (i % j)) else none := (rfl)
@[simp] theorem s_gPow (i j : Int) : gPow (.int i) (.int j) = if 0 ≤ j ∧ j ≤ 1000 ∧ i.natAbs < 2 ^ 64 then some (.int (i ^ j.toNat)) else none := (rfl)
@[simp] theorem s_gNeg (i : Int) : gNeg (.int i) = some (.int (-i)) := (rfl)
@[simp] theorem s_ixl (xs : List D) (j : Int) : gIx (.lst xs) (.int j) = atD xs j := (rfl)
@[simp] theorem s_ixt (xs : List D) (j : Int) : gIx (.tup xs) (.int j) = atD xs j := (rfl)
theorem at_nat {α : Type} (xs : List α) (j : Nat) : atD xs (j : Int) = xs[j]? := by
  unfold atD Cr.ixN
  by_cases h : j < xs.length
  · rw [if_pos (by omega), if_pos (by omega)]; simp
  · rw [if_pos (by omega), if_neg (by omega), List.getElem?_eq_none (by omega)]; rfl
@[simp] theorem s_at0 {α : Type} (xs : List α) : atD xs 0 = xs[0]? := at_nat xs 0
@[simp] theorem s_at1 {α : Type} (xs : List α) : atD xs 1 = xs[1]? := at_nat xs 1
@[simp] theorem s_at2 {α : Type} (xs : List α) : atD xs 2 = xs[2]? := at_nat xs 2
@[simp] theorem s_at3 {α : Type} (xs : List α) : atD xs 3 = xs[3]? := at_nat xs 3
@[simp] theorem s_at4 {α : Type} (xs : List α) : atD xs 4 = xs[4]? := at_nat xs 4
theorem at_int {α : Type} (xs : List α) {i : Int} (h : 0 ≤ i) : atD xs i = xs[i.toNat]? := by
  obtain ⟨n, rfl⟩ := Int.eq_ofNat_of_zero_le h
  rw [at_nat]
  rfl
theorem ixN_nat {n j : Nat} (h : j < n) : Cr.ixN n (j : Int) = some j := by
  unfold Cr.ixN
  rw [if_pos (by omega), if_pos (by omega)]; simp
theorem ixN_lit (n j : Nat) : Cr.ixN n (j : Int) = if j < n then some j else none := by
  by_cases h : j < n
  · rw [ixN_nat h, if_pos h]
  · unfold Cr.ixN; rw [if_pos (by omega), if_neg (by omega), if_neg h]
@[simp] theorem s_ixN0 (n : Nat) : Cr.ixN n 0 = if 0 < n then some 0 else none := ixN_lit n 0
@[simp] theorem s_ixN1 (n : Nat) : Cr.ixN n 1 = if 1 < n then some 1 else none := ixN_lit n 1
@[simp] theorem s_ixN2 (n : Nat) : Cr.ixN n 2 = if 2 < n then some 2 else none := ixN_lit n 2
@[simp] theorem s_ixN3 (n : Nat) : Cr.ixN n 3 = if 3 < n then some 3 else none := ixN_lit n 3
@[simp] theorem s_lenl (xs : List D) : bLen [.lst xs] = some (.int xs.length) := (rfl)
@[simp] theorem s_lent (xs : List D) : bLen [.tup xs] = some (.int xs.length) := (rfl)
@[simp] theorem s_abs (i : Int) : bAbs [.int i] = some (.int (if i < 0 then -i else i)) := (rfl)
@[simp] theorem s_int (i : Int) : bInt [.int i] = some (.int i) := (rfl)
@[simp] theorem s_max2 (i j : Int) : bMax2 [.int i, .int j] = some (.int (if j > i then j else i)) := (rfl)
@[simp] theorem s_min2 (i j : Int) : bMin2 [.int i, .int j] = some (.int (if j < i then j else i)) := (rfl)
@[simp] theorem s_listl (xs : List D) : bList [.lst xs] = some (.lst xs) := (rfl)
@[simp] theorem s_listt (xs : List D) : bList [.tup xs] = some (.lst xs) := (rfl)
@[simp] theorem s_tupl (xs : List D) : bTuple [.lst xs] = some (.tup xs) := (rfl)
@[simp] theorem s_tupt (xs : List D) : bTuple [.tup xs] = some (.tup xs) := (rfl)
@[simp] theorem s_rng1 (n : Int) : rng1 [.int n] = if -1000000 ≤ n ∧ n ≤ 1000000 then some (rangeD 0 n.toNat) else none := (rfl)
end Cr

end
section
/-! Evd: equality of data without truth values; loops and comprehensions over ranges. -/
namespace Cr
open PySem (Str)
mutual
/-- no truth value, no dict, no set -/
def nb : D → Bool
  | .non => true
  | .int _ => true
  | .str _ => true
  | .tup xs => nbL xs
  | .lst xs => nbL xs
  | _ => false
def nbL : List D → Bool
  | [] => true
  | x :: xs => nb x && nbL xs
end
theorem eqv_ii (i j : Int) : eqv (.int i) (.int j) = (i == j) := by simp [eqv]
mutual
theorem eqv_iff : ∀ (x y : D), nb x = true → nb y = true → (eqv x y = true ↔ x = y)
  | .non, y, hx, hy => by cases y <;> simp_all [eqv, nb]
  | .int i, y, hx, hy => by cases y <;> simp_all [eqv, nb]
  | .str s, y, hx, hy => by cases y <;> simp_all [eqv, nb]
  | .tup xs, y, hx, hy => by
    cases y with
    | tup ys => simp only [nb] at hx hy; simp [eqv, eqvL_iff xs ys hx hy]
    | _ => simp_all [eqv, nb]
  | .lst xs, y, hx, hy => by
    cases y with
    | lst ys => simp only [nb] at hx hy; simp [eqv, eqvL_iff xs ys hx hy]
    | _ => simp_all [eqv, nb]
  | .bl _, y, hx, hy => by simp [nb] at hx
  | .dct _, y, hx, hy => by simp [nb] at hx
  | .set _, y, hx, hy => by simp [nb] at hx
theorem eqvL_iff : ∀ (xs ys : List D), nbL xs = true → nbL ys = true → (eqvL xs ys = true ↔ xs = ys)
  | [], ys, hx, hy => by cases ys <;> simp [eqvL]
  | x :: xs, ys, hx, hy => by
    cases ys with
    | nil => simp [eqvL]
    | cons y ys =>
      simp only [nbL, Bool.and_eq_true] at hx hy
      simp [eqvL, eqv_iff x y hx.1 hy.1, eqvL_iff xs ys hx.2 hy.2]
end
instance : DecidableEq Str := inferInstance
/-- equality of trees, as a Bool -/
noncomputable def eqD (x y : D) : Bool := @decide (x = y) (Classical.propDecidable _)
theorem eqv_eqD {x y : D} (hx : nb x = true) (hy : nb y = true) : eqv x y = eqD x y := by
  unfold eqD
  have := eqv_iff x y hx hy
  by_cases h : x = y
  · rw [this.mpr h]; simp [h]
  · have : eqv x y = false := by cases e : eqv x y with
      | false => rfl
      | true => exact absurd (this.mp e) h
    rw [this]; simp [h]
theorem nb_ints (L : List Int) : nbL (L.map D.int) = true := by induction L with
  | nil => rfl
  | cons x l ih => simp [nbL, nb, ih]
theorem map_int_inj {X Y : List Int} : X.map D.int = Y.map D.int ↔ X = Y :=
  ⟨fun h => by
    have : (X.map D.int).map (fun d => match d with | .int a => a | _ => 0) = (Y.map D.int).map (fun d => match d with | .int a => a | _ => 0) := by rw [h]
    simpa [Function.comp_def] using this, fun h => by rw [h]⟩
theorem sh_int (n : Nat) (x : Int) : sh n (.int x) = true := by cases n <;> simp [sh]
theorem shL_ints : ∀ (n : Nat) (L : List Int), shL n (L.map D.int) = true
  | _, [] => by simp [shL]
  | n, x :: L => by simp [shL, sh_int, shL_ints n L]
theorem eqv_ints (X Y : List Int) : eqv (.lst (X.map .int)) (.lst (Y.map .int)) = decide (X = Y) := by
  have h := eqv_iff (.lst (X.map .int)) (.lst (Y.map .int)) (by simp [nb, nb_ints]) (by simp [nb, nb_ints])
  simp only [D.lst.injEq, map_int_inj] at h
  rw [Bool.eq_iff_iff, h]; simp
theorem gEq_ints (X Y : List Int) : gEq (.lst (X.map .int)) (.lst (Y.map .int)) = some (.bl (decide (X = Y))) := by
  unfold gEq; rw [if_pos ⟨by simp [sh, DEP, shL_ints], by simp [sh, DEP, shL_ints]⟩, eqv_ints]
theorem gNe_ints (X Y : List Int) : gNe (.lst (X.map .int)) (.lst (Y.map .int)) = some (.bl (!decide (X = Y))) := by
  unfold gNe; rw [if_pos ⟨by simp [sh, DEP, shL_ints], by simp [sh, DEP, shL_ints]⟩, eqv_ints]
theorem gIn_ints (x : Int) (L : List Int) : gIn (.int x) (.lst (L.map D.int)) = some (.bl (decide (x ∈ L))) := by
  simp only [gIn, sh_int, shL_ints, and_self, if_true, List.any_map]
  congr 2
  induction L with
  | nil => simp
  | cons y L ih =>
    simp only [List.any_cons, Function.comp, eqv_ii, List.mem_cons] at ih ⊢
    rw [ih]
    by_cases e : y = x
    · simp [e]
    · have e' : ¬ x = y := fun z => e z.symm
      simp [e, e']
theorem gIn_ff (l : List D) (h : ∀ d ∈ l, d = .bl true) : gIn (.bl false) (.lst l) = some (.bl false) := by
  have h1 : ∀ l : List D, (∀ d ∈ l, d = .bl true) → shL DEP l = true := by intro l; induction l <;> simp_all [shL, sh, DEP]
  have h2 : ∀ l : List D, (∀ d ∈ l, d = .bl true) → l.any (fun y => eqv y (.bl false)) = false := by intro l; induction l <;> simp_all [eqv]
  have h3 : sh DEP (.bl false) = true := by simp [sh, DEP]
  simp only [gIn, h1 l h, h2 l h, h3, and_self, if_true]
theorem intsD_map (l : List Int) : intsD (l.map .int) = some l := by induction l with
  | nil => rfl
  | cons x l ih => simp [intsD, ih]
@[simp] theorem s_sum (l : List Int) : bSum [.lst (l.map .int)] = some (.int l.sum) := by simp [bSum, intsD_map]
/-! ### ranges -/
theorem lcR {i n : Nat} {it : M (List D)} {c : M Bool} {x : M D} {e : Sl} (p : Nat → Bool) (g : Nat → D) (hi : i < e.length) (hit : it e = .ok (rangeD 0 n) e) (hl : n ≤ 1000000)
    (ht : ∀ a, a < n → c (e.set i (some (.int a))) = .ok (p a) (e.set i (some (.int a))) ∧ (p a = true → x (e.set i (some (.int a))) = .ok (g a) (e.set i (some (.int a))))) :
    lcE [i] it (tgN i) c x e = .ok (.lst (((List.range n).filter p).map g)) e := by
  have := lc1 (c := c) (x := x) (fun d => match d with | .int a => p a.toNat | _ => false) (fun d => match d with | .int a => g a.toNat | d => d) hi hit (by simp [rangeD, hl]) (by
    intro d hd
    simp only [rangeD, List.mem_map, List.mem_range] at hd
    obtain ⟨a, ha, rfl⟩ := hd
    simpa using ht a ha)
  rw [this]
  simp [rangeD, List.filter_map, Function.comp_def]
/-- a comprehension over a slot's own list that changes nothing -/
theorem lcO1 {i j : Nat} {c : M Bool} {x : M D} {e : Sl} {ds : List D} (p : D → Bool) (g : D → D) (hj : j < e.length) (hij : i ≠ j) (hd : e[i]? = some (some (.lst ds))) (hl : ds.length < 1000000)
    (ht : ∀ d ∈ ds, c (e.set j (some d)) = .ok (p d) (e.set j (some d)) ∧ (p d = true → x (e.set j (some d)) = .ok (g d) (e.set j (some d)))) :
    lcO i [j] (tgN j) c x e = .ok (.lst ((ds.filter p).map g)) e := by
  have w : ∀ d : Option D, wipeE (e.set j d) [j] = e.set j none := fun d => by simp [wipeE]
  have key : ∀ (n k : Nat) (acc : List D) (e' : Sl), k ≤ ds.length → ds.length < k + n → wipeE e' [j] = e.set j none → e'.length = e.length →
      ∃ e2, compO i [j] (tgN j) c x n k acc e' = .ok (acc ++ ((ds.drop k).filter p).map g) e2 ∧ wipeE e2 [j] = e.set j none ∧ e2.length = e.length := by
    intro n
    induction n with
    | zero => intro k acc e' h h'; omega
    | succ n ih =>
      intro k acc e' h h' h1 h2
      have hr : rd i e' = .ok (.lst ds) e' := by
        have : e'[i]? = e[i]? := by
          have := congrArg (fun l : Sl => l[i]?) h1
          simp only [wipeE, List.foldl, List.getElem?_set_ne (Ne.symm hij)] at this
          exact this
        exact rd_ok' (this.trans hd)
      unfold compO
      rw [bd_ok hr]
      by_cases hk : k < ds.length
      · obtain ⟨hc, hx⟩ := ht ds[k] (List.getElem_mem hk)
        rw [List.drop_eq_getElem_cons hk]
        simp only [List.getElem?_eq_getElem hk]
        rw [bd_ok (e1 := e.set j none) (a := ()) (by rw [h1]), bd_ok (e1 := e.set j (some ds[k])) (a := ()) (by simp [stT, tgN, hj]), bd_ok hc]
        cases hp : p ds[k] with
        | false =>
          obtain ⟨e2, q1, q2, q3⟩ := ih (k + 1) acc (e.set j (some ds[k])) (by omega) (by omega) (w _) (by simp)
          exact ⟨e2, by rw [List.filter_cons_of_neg (by simp [hp])]; simp [q1], q2, q3⟩
        | true =>
          obtain ⟨e2, q1, q2, q3⟩ := ih (k + 1) (acc ++ [g ds[k]]) (e.set j (some ds[k])) (by omega) (by omega) (w _) (by simp)
          refine ⟨e2, ?_, q2, q3⟩
          rw [if_pos rfl, bd_ok (hx hp), q1, List.filter_cons_of_pos hp]
          simp
      · have : k = ds.length := by omega
        subst this
        simp only [List.getElem?_eq_none (Nat.le_refl _)]
        exact ⟨e', by simp [pu], h1, h2⟩
  obtain ⟨e2, q1, q2, q3⟩ := key 1000000 0 [] e (by omega) (by omega) (by simp [wipeE]) rfl
  unfold lcO
  simp only [q1, List.nil_append, List.drop_zero]
  congr 1
  have : restE e e2 [j] = e2.set j (e[j]?.getD none) := rfl
  rw [this]
  have q2' : e2.set j none = e.set j none := q2
  apply List.ext_getElem?
  intro k
  by_cases ej : k = j
  · subst ej
    rw [List.getElem?_set_self (by omega), List.getElem?_eq_getElem hj]
    rfl
  · have := congrArg (fun l : Sl => l[k]?) q2'
    simp only [List.getElem?_set_ne (Ne.symm ej)] at this
    rw [List.getElem?_set_ne (Ne.symm ej), this]
end Cr

end
section
/-! Evw: loops and comprehensions by invariants. -/
namespace Cr
open PySem (Str)
/-- a for statement -/
theorem for_wp {it : M (List D)} {t : Tg} {b : S} {e e1 : Sl} {ds : List D} {Q : Fl → Sl → Prop} (I : Nat → Sl → Prop) (hit : it e = .ok ds e1) (h0 : I 0 e1)
    (ht : ∀ k d e', ds[k]? = some d → I k e' → ∃ e'', t d e' = some e'' ∧ WP (b e'') fun f e2 => match f with
      | .nx => I (k + 1) e2
      | .ct => I (k + 1) e2
      | .bk => Q .nx e2
      | .rt r => Q (.rt r) e2)
    (hf : ∀ e', I ds.length e' → Q .nx e') : WP (forS it t b e) Q := by
  have key : ∀ (n k : Nat) (e' : Sl), k + n = ds.length → I k e' → WP (loop t b (ds.drop k) e') Q := by
    intro n
    induction n with
    | zero =>
      intro k e' hk h
      have : k = ds.length := by omega
      subst this
      exact ⟨.nx, e', by simp [loop], hf _ h⟩
    | succ n ih =>
      intro k e' hk h
      have hlt : k < ds.length := by omega
      rw [List.drop_eq_getElem_cons hlt]
      obtain ⟨e'', p1, f, e2, p2, p3⟩ := ht k ds[k] e' (List.getElem?_eq_getElem hlt) h
      have hs : stT (t ds[k]) () e' = .ok () e'' := by simp [p1]
      cases f with
      | nx => obtain ⟨a, e3, r1, r2⟩ := ih (k + 1) e2 (by omega) p3; exact ⟨a, e3, by unfold loop; rw [bd_ok hs, bd_ok p2]; exact r1, r2⟩
      | ct => obtain ⟨a, e3, r1, r2⟩ := ih (k + 1) e2 (by omega) p3; exact ⟨a, e3, by unfold loop; rw [bd_ok hs, bd_ok p2]; exact r1, r2⟩
      | bk => exact ⟨.nx, e2, by unfold loop; rw [bd_ok hs, bd_ok p2]; rfl, p3⟩
      | rt r => exact ⟨.rt r, e2, by unfold loop; rw [bd_ok hs, bd_ok p2]; rfl, p3⟩
  obtain ⟨a, e2, q1, q2⟩ := key ds.length 0 e1 (by omega) h0
  exact ⟨a, e2, by unfold forS; rw [bd_ok hit]; simpa using q1, q2⟩
/-- a comprehension -/
theorem lc_wp {vs : List Nat} {it : M (List D)} {t : Tg} {c : M Bool} {x : M D} {e e1 : Sl} {ds : List D} {Q : D → Sl → Prop} (I : Nat → List D → Sl → Prop) (hit : it e = .ok ds e1) (hl : ds.length ≤ 1000000) (h0 : I 0 [] (wipeE e1 vs))
    (ht : ∀ k d acc e', ds[k]? = some d → I k acc e' → ∃ e'', t d e' = some e'' ∧ WP (c e'') fun b e2 => if b = true then WP (x e2) (fun y e3 => I (k + 1) (acc ++ [y]) (wipeE e3 vs)) else I (k + 1) acc (wipeE e2 vs))
    (hf : ∀ ys e2, I ds.length ys (wipeE e2 vs) → Q (.lst ys) (restE e1 e2 vs)) : WP (lcE vs it t c x e) Q := by
  have key : ∀ (n k : Nat) (acc : List D) (e' : Sl), k + n = ds.length → I k acc (wipeE e' vs) → ∃ ys e2, compL vs t c x (ds.drop k) acc e' = .ok ys e2 ∧ I ds.length ys (wipeE e2 vs) := by
    intro n
    induction n with
    | zero =>
      intro k acc e' hk h
      have : k = ds.length := by omega
      subst this
      exact ⟨acc, e', by simp [compL], h⟩
    | succ n ih =>
      intro k acc e' hk h
      have hlt : k < ds.length := by omega
      rw [List.drop_eq_getElem_cons hlt]
      obtain ⟨e'', p1, f, e2, p2, p3⟩ := ht k ds[k] acc _ (List.getElem?_eq_getElem hlt) h
      have hs : stT (t ds[k]) () (wipeE e' vs) = .ok () e'' := by simp [p1]
      have hw : ∀ f : Unit → M (List D), bd (fun e => Out.ok () (wipeE e vs)) f e' = f () (wipeE e' vs) := fun f => rfl
      cases f with
      | false =>
        obtain ⟨ys, e3, r1, r2⟩ := ih (k + 1) acc e2 (by omega) p3
        exact ⟨ys, e3, by unfold compL; rw [hw, bd_ok hs, bd_ok p2]; exact r1, r2⟩
      | true =>
        obtain ⟨y, e3, p4, p5⟩ := p3
        obtain ⟨ys, e4, r1, r2⟩ := ih (k + 1) (acc ++ [y]) e3 (by omega) p5
        exact ⟨ys, e4, by unfold compL; rw [hw, bd_ok hs, bd_ok p2, if_pos rfl, bd_ok p4]; exact r1, r2⟩
  obtain ⟨ys, e2, q1, q2⟩ := key ds.length 0 [] e1 (by omega) h0
  refine ⟨.lst ys, restE e1 e2 vs, ?_, hf ys e2 q2⟩
  unfold lcE
  rw [bd_ok hit]
  rw [List.drop_zero] at q1
  simp only [q1]
  rw [if_pos hl]
theorem wipe_len (e : Sl) : ∀ vs, (wipeE e vs).length = e.length
  | [] => rfl
  | v :: vs => by simp [wipeE, wipe_len e vs]
theorem wipe_get (e : Sl) (j : Nat) : ∀ vs, (wipeE e vs)[j]? = if j ∈ vs ∧ j < e.length then some none else e[j]?
  | [] => by simp [wipeE]
  | v :: vs => by
    unfold wipeE
    rw [List.getElem?_set]
    by_cases h : v = j
    · subst h
      rw [if_pos rfl]
      by_cases h2 : v < e.length
      · simp [wipe_len, h2]
      · rw [if_neg (by simp [wipe_len, h2]), if_neg (by simp [h2])]
        exact (List.getElem?_eq_none (by omega)).symm
    · rw [if_neg h, wipe_get e j vs]
      have : ¬ j = v := fun z => h z.symm
      simp [this]
theorem rest_get (e0 e : Sl) (h : e0.length = e.length) (j : Nat) : ∀ vs, (restE e0 e vs)[j]? = if j ∈ vs then e0[j]? else e[j]?
  | [] => by simp [restE]
  | v :: vs => by
    have hl : (restE e0 e vs).length = e.length := by
      clear h
      induction vs with
      | nil => rfl
      | cons v vs ih => simp [restE, ih]
    unfold restE
    rw [List.getElem?_set]
    by_cases h' : v = j
    · subst h'
      rw [if_pos rfl]
      by_cases h2 : v < e.length
      · rw [if_pos (by omega), if_pos List.mem_cons_self, List.getElem?_eq_getElem (by omega)]; rfl
      · rw [if_neg (by omega), if_pos List.mem_cons_self]
        exact (List.getElem?_eq_none (by omega)).symm
    · rw [if_neg h', rest_get e0 e h j vs]
      have : ¬ j = v := fun z => h' z.symm
      simp [this]
theorem rest_same {e e2 : Sl} {vs : List Nat} (h : wipeE e2 vs = wipeE e vs) : restE e e2 vs = e := by
  have hl : e2.length = e.length := by rw [← wipe_len e2 vs, h, wipe_len]
  apply List.ext_getElem?
  intro j
  rw [rest_get e e2 hl.symm]
  have := congrArg (fun l : Sl => l[j]?) h
  simp only [wipe_get] at this
  by_cases hj : j ∈ vs
  · rw [if_pos hj]
  · rw [if_neg hj]; simpa [hj] using this
theorem wipe_rest {e0 e2 : Sl} (hl : e0.length = e2.length) {vs : List Nat} (h : wipeE e0 vs = e0) : restE e0 e2 vs = wipeE e2 vs := by
  apply List.ext_getElem?
  intro j
  rw [rest_get _ _ hl, wipe_get]
  by_cases hj : j ∈ vs
  · rw [if_pos hj]
    by_cases hlt : j < e2.length
    · rw [if_pos ⟨hj, hlt⟩]
      have := congrArg (fun l : Sl => l[j]?) h
      simp only [wipe_get] at this
      rw [if_pos ⟨hj, by omega⟩] at this
      exact this.symm
    · rw [if_neg (by simp [hlt]), List.getElem?_eq_none (by omega), List.getElem?_eq_none (by omega)]
  · simp [hj]
theorem wipe_set (e : Sl) (i : Nat) (d : Option D) : wipeE (e.set i d) [i] = e.set i none := by simp [wipeE]
theorem wipe_1 (e : Sl) (i : Nat) : wipeE e [i] = e.set i none := rfl
/-- one that changes nothing, any target -/
theorem lcP {vs : List Nat} {it : M (List D)} {t : Tg} {c : M Bool} {x : M D} {e : Sl} {ds : List D} (p : D → Bool) (g : D → D) (hit : it e = .ok ds e) (hl : ds.length ≤ 1000000)
    (ht : ∀ d ∈ ds, ∃ e'', t d (wipeE e vs) = some e'' ∧ wipeE e'' vs = wipeE e vs ∧ c e'' = .ok (p d) e'' ∧ (p d = true → x e'' = .ok (g d) e'')) :
    lcE vs it t c x e = .ok (.lst ((ds.filter p).map g)) e := by
  have := lc_wp (c := c) (x := x) (t := t) (vs := vs) (Q := fun y e2 => y = .lst ((ds.filter p).map g) ∧ e2 = e) (fun k acc e' => e' = wipeE e vs ∧ acc = ((ds.take k).filter p).map g) hit hl ⟨rfl, by simp⟩ (by
    intro k d acc e' hk he
    obtain ⟨rfl, rfl⟩ := he
    obtain ⟨e'', q1, q2, q3, q4⟩ := ht d (List.mem_of_getElem? hk)
    have hlt : k < ds.length := by
      have := List.getElem?_eq_some_iff.mp hk
      exact this.1
    have hd : ds.take (k + 1) = ds.take k ++ [d] := by rw [List.take_succ, hk]; rfl
    refine ⟨e'', q1, wp_i q3 ?_⟩
    cases hp : p d with
    | false => rw [if_neg (by decide), hd]; simp [q2, hp]
    | true => rw [if_pos rfl]; exact wp_i (q4 hp) ⟨q2, by rw [hd]; simp [hp]⟩) (by
    intro ys e2 he
    obtain ⟨h1, rfl⟩ := he
    exact ⟨by simp, rest_same h1⟩)
  obtain ⟨y, e2, h, rfl, rfl⟩ := this
  exact h
end Cr

end
section
/-! Letters: sets of letters as numbers; no program in sight. -/
namespace G
open Cr
def pw (a : Nat) : Int := 2 ^ a
def memI (n : Nat) (b : Int) : List Int := ((List.range n).filter fun a => b / pw a % 2 == 1).map fun (a : Nat) => (a : Int)
def inI (L : List Int) (a : Nat) : Bool := decide ((a : Int) ∈ L)
/-- a set by its letters, of five -/
def bitsP (p : Nat → Bool) : Int := (((List.range 5).filter p).map pw).sum
def bitsI (L : List Int) : Int := bitsP (inI L)
theorem lt5 {a : Nat} (h : a < 5) : a = 0 ∨ a = 1 ∨ a = 2 ∨ a = 3 ∨ a = 4 := by omega
theorem memI_map (n : Nat) (b : Int) : ((List.range n).filter fun a => b / pw a % 2 == 1).map (fun (a : Nat) => D.int (a : Int)) = (memI n b).map .int := by
  simp [memI, Function.comp_def]
theorem memI_len (n : Nat) (b : Int) : (memI n b).length ≤ n := by simp only [memI, List.length_map]; exact Nat.le_trans (List.length_filter_le _ _) (by simp)
theorem mem_memI {n : Nat} {b z : Int} : z ∈ memI n b ↔ ∃ a : Nat, a < n ∧ z = a ∧ b / pw a % 2 = 1 := by
  simp only [memI, List.mem_map, List.mem_filter, List.mem_range, beq_iff_eq]
  exact ⟨fun ⟨a, ⟨h1, h2⟩, h3⟩ => ⟨a, h1, h3.symm, h2⟩, fun ⟨a, h1, h2, h3⟩ => ⟨a, ⟨h1, h3⟩, h2.symm⟩⟩
theorem memI_pw (n : Nat) (b : Int) : (memI n b).Pairwise (· < ·) := by
  unfold memI
  exact List.Pairwise.map _ (fun a c h => by omega) (List.pairwise_lt_range.filter _)
theorem bitsP_5 (p : Nat → Bool) : bitsP p = (if p 0 then 1 else 0) + (if p 1 then 2 else 0) + (if p 2 then 4 else 0) + (if p 3 then 8 else 0) + (if p 4 then 16 else 0) := by
  have hr : List.range 5 = [0, 1, 2, 3, 4] := rfl
  unfold bitsP
  rw [hr]
  cases h0 : p 0 <;> cases h1 : p 1 <;> cases h2 : p 2 <;> cases h3 : p 3 <;> cases h4 : p 4 <;> simp [List.filter, h0, h1, h2, h3, h4, pw]
theorem bitsP_has (p : Nat → Bool) {a : Nat} (h : a < 5) : bitsP p / pw a % 2 = 1 ↔ p a = true := by
  rw [bitsP_5]
  rcases lt5 h with rfl | rfl | rfl | rfl | rfl <;> cases h0 : p 0 <;> cases h1 : p 1 <;> cases h2 : p 2 <;> cases h3 : p 3 <;> cases h4 : p 4 <;> simp [pw]
theorem memI_bitsI {n : Nat} {L : List Int} (hn : n ≤ 5) (h : ∀ a ∈ L, 0 ≤ a ∧ a < n) : memI n (bitsI L) = usort L := by
  refine pw_lt_eq (fun z => ?_) (memI_pw _ _) (usort_pw _)
  rw [usort_mem, mem_memI]
  constructor
  · rintro ⟨a, h1, rfl, h3⟩
    rw [bitsI, bitsP_has _ (by omega)] at h3
    simpa [inI] using h3
  · intro hz
    obtain ⟨z0, z1⟩ := h z hz
    obtain ⟨a, rfl⟩ := Int.eq_ofNat_of_zero_le z0
    refine ⟨a, by omega, rfl, ?_⟩
    rw [bitsI, bitsP_has _ (by omega)]
    simpa [inI] using hz
/-- the sum over the first letters -/
def bitsK (p : Nat → Bool) (k : Nat) : Int := (((List.range k).filter p).map pw).sum
theorem bitsK_s (p : Nat → Bool) (k : Nat) : bitsK p (k + 1) = if p k = true then bitsK p k + pw k else bitsK p k := by
  unfold bitsK
  rw [List.range_succ, List.filter_append]
  cases h : p k <;> simp [h]
theorem bitsK_5 {n : Nat} {p : Nat → Bool} (hn : n ≤ 5) (h : ∀ a, n ≤ a → p a = false) : bitsK p n = bitsP p := by
  have : ∀ k, n ≤ k → bitsK p k = bitsK p n := by
    intro k
    induction k with
    | zero => intro h; rw [show n = 0 by omega]
    | succ k ih =>
      intro hk
      by_cases e : n = k + 1
      · rw [e]
      · rw [bitsK_s, h k (by omega)]; exact ih (by omega)
  exact (this 5 hn).symm
theorem fact1 : ∀ n : Nat, n < 6 → ∀ b : Nat, b < 2 ^ n → bitsI (memI n b) = (b : Int) := by decide +kernel
def pow5 (a : Nat) (h : a < 5) : atD [D.int 1, .int 2, .int 4, .int 8, .int 16] (a : Int) = some (.int (pw a)) := by
  rcases lt5 h with rfl | rfl | rfl | rfl | rfl <;> rfl
def pow6 : ∀ n : Nat, n < 6 → atD [D.int 1, .int 2, .int 4, .int 8, .int 16, .int 32] (n : Int) = some (.int (2 ^ n)) := by
  intro n h
  have : n = 0 ∨ n = 1 ∨ n = 2 ∨ n = 3 ∨ n = 4 ∨ n = 5 := by omega
  rcases this with rfl | rfl | rfl | rfl | rfl | rfl <;> rfl
theorem pwb : ∀ a : Nat, a < 5 → (0 : Int) < pw a ∧ pw a < 1073741824 := by decide
theorem pw6b : ∀ n : Nat, n < 6 → (2 : Int) ^ n < 1073741824 := by decide
end G

end
section
namespace G
open Cr
open PySem (Str)
def c_POWERS : M D := cst (.tup [(.int 1), (.int 2), (.int 4), (.int 8), (.int 16)])
def f__law_box : Fn := fnOf [false] false 2
  (retS (lstE [(cst (.int 0)), (cst (.int 0)), (cst (.int 0)), (lcE [1] (itE (rd 0)) (tgN 1) (pu true) (callB bAbs [(.d (callB bInt [(.d (rd 1))]))]))]))
def f__law_take : Fn := fnOf [true, false] true 5
  (seqS (ifS (tstB (bin gEq (.d (bin gIx (.o 0) (.d (cst (.int 1))))) (.d (cst (.int 0)))))
  (seqS (asg (bin gIx (.o 0) (.d (cst (.int 2)))) (tgN 2))
  (seqS (asg (cst (.int 0)) (tgN 3))
  (seqS (ifS (tstB (bin gLt (.d (rd 2)) (.d (callB bLen [(.d (bin gIx (.o 0) (.d (cst (.int 3)))))]))))
  (seqS (asg (bin gIx (.d (bin gIx (.o 0) (.d (cst (.int 3))))) (.d (rd 2))) (tgN 3))
  (setS 0 (cst (.int 1)) (ifE (tstB (bin gGe (.d (rd 3)) (.d (bin gPow (.d (cst (.int 10))) (.d (cst (.int 18))))))) (cst (.int 60)) (un gNeg (.d (cst (.int 9)))))))
  Cr.nx)
  (seqS (setS 0 (cst (.int 2)) (bin Cr.gAdd (.d (rd 2)) (.d (cst (.int 1)))))
  (seqS (setS 0 (cst (.int 0)) (rd 3))
  (ifS (tstB (bin gEq (.d (bin gIx (.o 0) (.d (cst (.int 1))))) (.d (cst (.int 0)))))
  (retS (cst (.int 0)))
  Cr.nx))))))
  Cr.nx)
  (seqS (ifS (tstB (bin gGt (.d (bin gIx (.o 0) (.d (cst (.int 1))))) (.d (cst (.int 0)))))
  (seqS (asg (bin gMod (.d (callB bInt [(.d (bin gIx (.o 0) (.d (cst (.int 0)))))])) (.d (rd 1))) (tgN 4))
  (seqS (setS 0 (cst (.int 0)) (bin gFdv (.d (bin gIx (.o 0) (.d (cst (.int 0))))) (.d (rd 1))))
  (seqS (setS 0 (cst (.int 1)) (ifE (tstB (bin gGt (.d (bin gIx (.o 0) (.d (cst (.int 0))))) (.d (cst (.int 0))))) (bin Cr.gSub (.d (bin gIx (.o 0) (.d (cst (.int 1))))) (.d (cst (.int 1)))) (cst (.int 0))))
  (retS (rd 4)))))
  Cr.nx)
  (seqS (setS 0 (cst (.int 1)) (bin Cr.gAdd (.d (bin gIx (.o 0) (.d (cst (.int 1))))) (.d (cst (.int 1)))))
  (seqS (setS 0 (cst (.int 0)) (bin gMod (.d (callB bInt [(.d (bin Cr.gAdd (.d (bin gMul (.d (bin gIx (.o 0) (.d (cst (.int 0))))) (.d (cst (.int 48271))))) (.d (bin gMul (.d (cst (.int 69621))) (.d (bin Cr.gAdd (.d (bin gIx (.o 0) (.d (cst (.int 1))))) (.d (cst (.int 20)))))))))])) (.d (cst (.int 2147483647)))))
  (retS (bin gMod (.d (bin gMod (.d (callB bInt [(.d (bin Cr.gAdd (.d (bin gFdv (.d (bin gIx (.o 0) (.d (cst (.int 0))))) (.d (cst (.int 7))))) (.d (bin gIx (.o 0) (.d (cst (.int 0)))))))])) (.d (cst (.int 1000003))))) (.d (rd 1))))))))
def f_has : Fn := fnOf [false, false] true 2
  (retS (bin gEq (.d (bin gMod (.d (bin gFdv (.d (rd 0)) (.d (bin gIx (.d c_POWERS) (.d (rd 1)))))) (.d (cst (.int 2))))) (.d (cst (.int 1)))))
def f_members : Fn := fnOf [false, false] false 3
  (retS (lcE [2] (itR rng1 [(.d (rd 0))]) (tgN 2) (tstB (callF f_has [(.d (rd 1)), (.d (rd 2))])) (rd 2)))
def f_bits_of : Fn := fnOf [false] true 2
  (retS (callB bSum [(.d (lcE [1] (itR rng1 [(.d (cst (.int 5)))]) (tgN 1) (tstB (bin gIn (.d (rd 1)) (.d (rd 0)))) (bin gIx (.d c_POWERS) (.d (rd 1)))))]))
def f__law_is_number : Fn := fnOf [false] true 1
  (retS (andV (un (gIsi .int) (.d (rd 0))) (notV (un (gIsi .bool) (.d (rd 0))))))
def f_law : Fn := fnOf [false] true 11
  (seqS (asg (callF f__law_box [(.d (rd 0))]) (tgN 1))
  (seqS (asg (callF f__law_take [(.o 1), (.d (cst (.int 6)))]) (tgN 2))
  (seqS (asg (callF f__law_take [(.o 1), (.d (bin gIx (.d (lstE [(cst (.int 1)), (cst (.int 2)), (cst (.int 4)), (cst (.int 8)), (cst (.int 16)), (cst (.int 32))])) (.d (rd 2))))]) (tgN 3))
  (seqS (asg (lcE [9] (itR rng1 [(.d (rd 2))]) (tgN 9) (tstB (bin gEq (.d (bin gMod (.d (bin gFdv (.d (callB bInt [(.d (rd 3))])) (.d (bin gIx (.d (lstE [(cst (.int 1)), (cst (.int 2)), (cst (.int 4)), (cst (.int 8)), (cst (.int 16))])) (.d (rd 9)))))) (.d (cst (.int 2))))) (.d (cst (.int 1))))) (rd 9)) (tgN 4))
  (seqS (asg (callF f_members [(.d (rd 2)), (.d (rd 3))]) (tgN 5))
  (seqS (ifS (orT (notT (tstB (un (gIsi .list) (.o 5)))) (orT (tstB (bin gNe (.o 5) (.d (rd 4)))) (tstB (bin gIn (.d (cst (.bl false))) (.d (lcO 5 [9] (tgN 9) (pu true) (callF f__law_is_number [(.d (rd 9))])))))))
  (retS (cst (.bl false)))
  Cr.nx)
  (seqS (appS 5 (cst (.int 9)))
  (seqS (ifS (orT (tstB (bin gNe (.d (callF f_members [(.d (rd 2)), (.d (rd 3))])) (.d (rd 4)))) (orT (tstB (bin gNe (.d (callF f_bits_of [(.d (rd 4))])) (.d (rd 3)))) (notT (tstB (callF f__law_is_number [(.d (callF f_bits_of [(.d (rd 4))]))])))))
  (retS (cst (.bl false)))
  Cr.nx)
  (seqS (asg (lcE [10] (itR rng1 [(.d (bin gMul (.d (callF f__law_take [(.o 1), (.d (cst (.int 8)))])) (.d (callB bMin2 [(.d (rd 2)), (.d (cst (.int 1)))]))))]) (tgN 10) (pu true) (callF f__law_take [(.o 1), (.d (callB bMax2 [(.d (rd 2)), (.d (cst (.int 1)))]))])) (tgN 6))
  (seqS (asg (callB bList [(.d (rd 6))]) (tgN 7))
  (seqS (asg (cst (.int 0)) (tgN 8))
  (seqS (forS (itR rng1 [(.d (rd 2))]) (tgN 9)
  (ifS (tstB (bin gIn (.d (rd 9)) (.d (rd 6))))
  (asg (bin Cr.gAdd (.d (rd 8)) (.d (bin gIx (.d (lstE [(cst (.int 1)), (cst (.int 2)), (cst (.int 4)), (cst (.int 8)), (cst (.int 16))])) (.d (rd 9))))) (tgN 8))
  Cr.nx))
  (retS (andV (bin gEq (.d (callF f_bits_of [(.d (rd 6))])) (.d (rd 8))) (andV (bin gEq (.d (rd 6)) (.d (rd 7))) (bin gEq (.d (callF f_members [(.d (rd 2)), (.d (callF f_bits_of [(.d (rd 6))]))])) (.d (callB bSetI [(.d (rd 6))]))))))))))))))))))
end G

end
section
set_option maxRecDepth 100000
set_option maxHeartbeats 4000000
namespace G
open PySem PySem.Spec PyProof.Rows L2 Cr Lk
def top (i : Nat) : Stmt := PySem.Challenge.pw_spandrel_k01_sets_of_letters.main.body.getD i (.Pass ⟨0, 0, 0, 0⟩)
def cl : Nat → Addr := fun _ => 0
abbrev s__law_box : Stmt := top 6
theorem sc__law_box : FnScope ["_law_script", "_law_x"] ["_law_script"] (defScope s__law_box) := ⟨rfl, rfl, rfl, by decide +kernel, rfl, by decide +kernel, by decide +kernel⟩
abbrev s__law_take : Stmt := top 7
theorem sc__law_take : FnScope ["_law_box_here", "_law_m", "_law_at", "_law_cell", "_law_told"] ["_law_box_here", "_law_m"] (defScope s__law_take) := ⟨rfl, rfl, rfl, by decide +kernel, rfl, by decide +kernel, by decide +kernel⟩
abbrev s_has : Stmt := top 2
theorem sc_has : FnScope ["bits", "letter"] ["bits", "letter"] (defScope s_has) := ⟨rfl, rfl, rfl, by decide +kernel, rfl, by decide +kernel, by decide +kernel⟩
abbrev s_members : Stmt := top 3
theorem sc_members : FnScope ["n", "bits", "letter"] ["n", "bits"] (defScope s_members) := ⟨rfl, rfl, rfl, by decide +kernel, rfl, by decide +kernel, by decide +kernel⟩
abbrev s_bits_of : Stmt := top 4
theorem sc_bits_of : FnScope ["letters", "letter"] ["letters"] (defScope s_bits_of) := ⟨rfl, rfl, rfl, by decide +kernel, rfl, by decide +kernel, by decide +kernel⟩
abbrev s__law_is_number : Stmt := top 9
theorem sc__law_is_number : FnScope ["_law_x"] ["_law_x"] (defScope s__law_is_number) := ⟨rfl, rfl, rfl, by decide +kernel, rfl, by decide +kernel, by decide +kernel⟩
abbrev s_law : Stmt := top 10
theorem sc_law : FnScope ["_law_script", "_law_box_here", "_law_n", "_law_bits", "_law_due", "_law_told", "_law_letters", "_law_kept", "_law_total", "_law_a", "_law_k"] ["_law_script"] (defScope s_law) := ⟨rfl, rfl, rfl, by decide +kernel, rfl, by decide +kernel, by decide +kernel⟩
/-- what the top has written -/
structure Tx (K : PySem.W.Frag) (mg : Str → Option Value) where
  a__law_box : Addr
  d__law_box : FuncData
  a__law_take : Addr
  d__law_take : FuncData
  a_has : Addr
  d_has : FuncData
  a_members : Addr
  d_members : FuncData
  a_bits_of : Addr
  d_bits_of : FuncData
  a__law_is_number : Addr
  d__law_is_number : FuncData
  a_law : Addr
  d_law : FuncData
  u_POWERS : Value
  F__law_box : FunD K "_law_box" "_law_box" (defArgs s__law_box) (defBody s__law_box) (defScope s__law_box) [] [] a__law_box d__law_box
  g__law_box : mg "_law_box" = some (.ref a__law_box)
  b__law_box : Binds K d__law_box ["_law_script"] []
  F__law_take : FunD K "_law_take" "_law_take" (defArgs s__law_take) (defBody s__law_take) (defScope s__law_take) [] [] a__law_take d__law_take
  g__law_take : mg "_law_take" = some (.ref a__law_take)
  b__law_take : Binds K d__law_take ["_law_box_here", "_law_m"] []
  F_has : FunD K "has" "has" (defArgs s_has) (defBody s_has) (defScope s_has) [] [] a_has d_has
  g_has : mg "has" = some (.ref a_has)
  b_has : Binds K d_has ["bits", "letter"] []
  F_members : FunD K "members" "members" (defArgs s_members) (defBody s_members) (defScope s_members) [] [] a_members d_members
  g_members : mg "members" = some (.ref a_members)
  b_members : Binds K d_members ["n", "bits"] []
  F_bits_of : FunD K "bits_of" "bits_of" (defArgs s_bits_of) (defBody s_bits_of) (defScope s_bits_of) [] [] a_bits_of d_bits_of
  g_bits_of : mg "bits_of" = some (.ref a_bits_of)
  b_bits_of : Binds K d_bits_of ["letters"] []
  F__law_is_number : FunD K "_law_is_number" "_law_is_number" (defArgs s__law_is_number) (defBody s__law_is_number) (defScope s__law_is_number) [] [] a__law_is_number d__law_is_number
  g__law_is_number : mg "_law_is_number" = some (.ref a__law_is_number)
  b__law_is_number : Binds K d__law_is_number ["_law_x"] []
  F_law : FunD K "law" "law" (defArgs s_law) (defBody s_law) (defScope s_law) [] [] a_law d_law
  g_law : mg "law" = some (.ref a_law)
  b_law : Binds K d_law ["_law_script"] []
  g_POWERS : mg "POWERS" = some u_POWERS
  v_POWERS : ∃ v, RelV v u_POWERS ∧ ∀ O H, Rep K O H (.tup [(.int 1), (.int 2), (.int 4), (.int 8), (.int 16)]) v
  n_int : mg "int" = none
  n_abs : mg "abs" = none
  n_len : mg "len" = none
  n_range : mg "range" = none
  n_sum : mg "sum" = none
  n_isinstance : mg "isinstance" = none
  n_bool : mg "bool" = none
  n_list : mg "list" = none
  n_min : mg "min" = none
  n_max : mg "max" = none
  n_sorted : mg "sorted" = none
  n_set : mg "set" = none
  bA : ∀ (s : Shared) (us : List Value), us.length = (["_law_script"] : List Str).length → BindsTo s d_law ⟨us, []⟩ ((["_law_script"] : List Str).zip us)
section
variable {P : Program} {w : World} {K : PySem.W.Frag} {mg : Str → Option Value} {base : Heap}
noncomputable def V_POWERS (T : Tx K mg) : V := T.v_POWERS.choose
theorem RelV_POWERS (T : Tx K mg) : RelV (V_POWERS T) T.u_POWERS := T.v_POWERS.choose_spec.1
theorem rep_POWERS (T : Tx K mg) : ∀ O H, Rep K O H (.tup [(.int 1), (.int 2), (.int 4), (.int 8), (.int 16)]) (V_POWERS T) := T.v_POWERS.choose_spec.2
theorem ok__law_box (T : Tx K mg) : FnOk P w K mg base (L2.CX P w) 1 T.a__law_box T.d__law_box ["_law_script"] (spF K [.dat] .ol cl f__law_box) := by
  refine ok_def (pm := [.dat]) (gs := [.dat, .dat]) (rm := .ol) (cl := cl) T.F__law_box sc__law_box rfl (by decide) rfl (by decide) (fun cdv A outer s H E hr => ?_)
  have tk := takes_of (X := cxOf (L2.CX P w) P w K mg base ["_law_script", "_law_x"] "_law_box" (defScope s__law_box) T.a__law_box cdv A outer s H E) (E := E) rfl rfl rfl rfl
  exact (rs_one (rs_retF (rf_lst (ms := [(cst (.int 0)), (cst (.int 0)), (cst (.int 0)), (lcE [1] (itE (rd 0)) (tgN 1) (pu true) (callB bAbs [(.d (callB bInt [(.d (rd 1))]))]))]) (ra_cons (o := .d _) re_int (ra_cons (o := .d _) re_int (ra_cons (o := .d _) re_int (ra_cons (o := .d _) (re_fe (rf_lc rfl sc__law_box.nd (ri_seq rfl (re_var rfl (pv 0))) (blkOk_by (own := [("_law_x", 1)]) rfl) rfl (all_dat rfl) (fun _ _ _ _ _ => (rg_name rfl rfl (pg_name (i := 1) sc__law_box.nd rfl (by first | exact Or.inl rfl | exact Or.inr rfl)))) (fun _ _ _ _ _ => rts_nil) (fun _ _ _ _ _ => (re_callB (call_abs) cs_abs (by rfl) T.n_abs (by decide +kernel) (ra_cons (re_callTy call_int1 cs_int (by rfl) T.n_int (by decide +kernel) (ra_cons (re_var rfl (pv 1)) ra_nil)) ra_nil))))) ra_nil)))))))
theorem ok__law_take (T : Tx K mg) : FnOk P w K mg base (L2.CX P w) 1 T.a__law_take T.d__law_take ["_law_box_here", "_law_m"] (spF K [.ol, .dat] .dat cl f__law_take) := by
  refine ok_def (pm := [.ol, .dat]) (gs := [.ol, .dat, .dat, .dat, .dat]) (rm := .dat) (cl := cl) T.F__law_take sc__law_take rfl (by decide) rfl (by decide) (fun cdv A outer s H E hr => ?_)
  have tk := takes_of (X := cxOf (L2.CX P w) P w K mg base ["_law_box_here", "_law_m", "_law_at", "_law_cell", "_law_told"] "_law_take" (defScope s__law_take) T.a__law_take cdv A outer s H E) (E := E) rfl rfl rfl rfl
  exact (rs_cons (rs_if (rt_cmp (op_eqD hr.units) os_eq (re_ix ix_seq os_ix (pv 0) re_int (fun _ _ => rfl)) re_int (nomark _))
  (rs_cons (rs_asg rfl rfl (ps_set (i := 2) sc__law_take.nd rfl (Or.inl rfl) (re_ix ix_seq os_ix (pv 0) re_int (fun _ _ => rfl))))
  (rs_cons (rs_asg rfl rfl (ps_set (i := 3) sc__law_take.nd rfl (Or.inl rfl) re_int))
  (rs_cons (rs_if (rt_cmp (op_lt) os_lt (re_var rfl (pv 2)) (re_callB (call_len) cs_len (by rfl) T.n_len (by decide +kernel) (ra_cons (re_ix ix_seq os_ix (pv 0) re_int (fun _ _ => rfl)) ra_nil)) (nomark _))
  (rs_cons (rs_asg rfl rfl (ps_set (i := 3) sc__law_take.nd rfl (Or.inl rfl) (re_ix ix_seq os_ix (re_ix ix_seq os_ix (pv 0) re_int (fun _ _ => rfl)) (re_var rfl (pv 2)) (fun _ _ => rfl))))
  (rs_one (rs_setI rfl (ps_asg (re_if (rt_cmp (op_ge) os_ge (re_var rfl (pv 3)) (re_bin op_pow os_pow re_int re_int) (nomark _)) re_int (re_un un_neg us_neg re_int)) (pg_sub (pv 0) re_int set_list)))))
  rs_nil)
  (rs_cons (rs_setI rfl (ps_asg (re_bin op_addA os_add (re_var rfl (pv 2)) re_int) (pg_sub (pv 0) re_int set_list)))
  (rs_cons (rs_setI rfl (ps_asg (re_var rfl (pv 3)) (pg_sub (pv 0) re_int set_list)))
  (rs_one (rs_if (rt_cmp (op_eqD hr.units) os_eq (re_ix ix_seq os_ix (pv 0) re_int (fun _ _ => rfl)) re_int (nomark _))
  (rs_one (rs_ret rfl re_int))
  rs_nil)))))))
  rs_nil)
  (rs_cons (rs_if (rt_cmp (op_gt) os_gt (re_ix ix_seq os_ix (pv 0) re_int (fun _ _ => rfl)) re_int (nomark _))
  (rs_cons (rs_asg rfl rfl (ps_set (i := 4) sc__law_take.nd rfl (Or.inl rfl) (re_bin op_mod os_mod (re_callTy call_int1 cs_int (by rfl) T.n_int (by decide +kernel) (ra_cons (re_ix ix_seq os_ix (pv 0) re_int (fun _ _ => rfl)) ra_nil)) (re_var rfl (pv 1)))))
  (rs_cons (rs_setI rfl (ps_asg (re_bin op_fdiv os_fdv (re_ix ix_seq os_ix (pv 0) re_int (fun _ _ => rfl)) (re_var rfl (pv 1))) (pg_sub (pv 0) re_int set_list)))
  (rs_cons (rs_setI rfl (ps_asg (re_if (rt_cmp (op_gt) os_gt (re_ix ix_seq os_ix (pv 0) re_int (fun _ _ => rfl)) re_int (nomark _)) (re_bin op_sub os_sub (re_ix ix_seq os_ix (pv 0) re_int (fun _ _ => rfl)) re_int) re_int) (pg_sub (pv 0) re_int set_list)))
  (rs_one (rs_ret rfl (re_var rfl (pv 4)))))))
  rs_nil)
  (rs_cons (rs_setI rfl (ps_asg (re_bin op_addA os_add (re_ix ix_seq os_ix (pv 0) re_int (fun _ _ => rfl)) re_int) (pg_sub (pv 0) re_int set_list)))
  (rs_cons (rs_setI rfl (ps_asg (re_bin op_mod os_mod (re_callTy call_int1 cs_int (by rfl) T.n_int (by decide +kernel) (ra_cons (re_bin op_addA os_add (re_bin op_mul os_mul (re_ix ix_seq os_ix (pv 0) re_int (fun _ _ => rfl)) re_int) (re_bin op_mul os_mul re_int (re_bin op_addA os_add (re_ix ix_seq os_ix (pv 0) re_int (fun _ _ => rfl)) re_int))) ra_nil)) re_int) (pg_sub (pv 0) re_int set_list)))
  (rs_one (rs_ret rfl (re_bin op_mod os_mod (re_bin op_mod os_mod (re_callTy call_int1 cs_int (by rfl) T.n_int (by decide +kernel) (ra_cons (re_bin op_addA os_add (re_bin op_fdiv os_fdv (re_ix ix_seq os_ix (pv 0) re_int (fun _ _ => rfl)) re_int) (re_ix ix_seq os_ix (pv 0) re_int (fun _ _ => rfl))) ra_nil)) re_int) (re_var rfl (pv 1)))))))))
theorem ok_has (T : Tx K mg) : FnOk P w K mg base (L2.CX P w) 1 T.a_has T.d_has ["bits", "letter"] (spF K [.dat, .dat] .dat cl f_has) := by
  refine ok_def (pm := [.dat, .dat]) (gs := [.dat, .dat]) (rm := .dat) (cl := cl) T.F_has sc_has rfl (by decide) rfl (by decide) (fun cdv A outer s H E hr => ?_)
  have tk := takes_of (X := cxOf (L2.CX P w) P w K mg base ["bits", "letter"] "has" (defScope s_has) T.a_has cdv A outer s H E) (E := E) rfl rfl rfl rfl
  exact (rs_one (rs_ret rfl (re_cmp (op_eqD hr.units) os_eq (re_bin op_mod os_mod (re_bin op_fdiv os_fdv (re_var rfl (pv 0)) (re_ix ix_seq os_ix (re_cst (pe_glob rfl T.g_POWERS (RelV_POWERS T)) (rep_POWERS T)) (re_var rfl (pv 1)) (fun _ _ => rfl))) re_int) re_int (nomark _))))
theorem ok_members (T : Tx K mg) : FnOk P w K mg base (L2.CX P w) 2 T.a_members T.d_members ["n", "bits"] (spF K [.dat, .dat] .ol cl f_members) := by
  refine ok_def (pm := [.dat, .dat]) (gs := [.dat, .dat, .dat]) (rm := .ol) (cl := cl) T.F_members sc_members rfl (by decide) rfl (by decide) (fun cdv A outer s H E hr => ?_)
  have tk := takes_of (X := cxOf (L2.CX P w) P w K mg base ["n", "bits", "letter"] "members" (defScope s_members) T.a_members cdv A outer s H E) (E := E) rfl rfl rfl rfl
  exact (rs_one (rs_retF (rf_lc rfl sc_members.nd (ri_rng1 (by rfl) T.n_range (ra_cons (re_var rfl (pv 0)) ra_nil)) (blkOk_by (own := [("letter", 2)]) rfl) rfl (all_dat rfl) (fun _ _ _ _ _ => (rg_name rfl rfl (pg_name (i := 2) sc_members.nd rfl (by first | exact Or.inl rfl | exact Or.inr rfl)))) (fun _ _ _ _ _ => (rts_one (rt_val (re_call (E := E0) (ok_has T) (hr.mono (by decide)) (by rfl) T.g_has T.F_has.kp T.b_has passL (fun _ _ _ h => h) (ra_cons (re_var rfl (pv 1)) (ra_cons (re_var rfl (pv 2)) ra_nil)) (by rfl) (by decide))))) (fun _ _ _ _ _ => (re_var rfl (pv 2))))))
theorem ok_bits_of (T : Tx K mg) : FnOk P w K mg base (L2.CX P w) 1 T.a_bits_of T.d_bits_of ["letters"] (spF K [.dat] .dat cl f_bits_of) := by
  refine ok_def (pm := [.dat]) (gs := [.dat, .dat]) (rm := .dat) (cl := cl) T.F_bits_of sc_bits_of rfl (by decide) rfl (by decide) (fun cdv A outer s H E hr => ?_)
  have tk := takes_of (X := cxOf (L2.CX P w) P w K mg base ["letters", "letter"] "bits_of" (defScope s_bits_of) T.a_bits_of cdv A outer s H E) (E := E) rfl rfl rfl rfl
  exact (rs_one (rs_ret rfl (re_callB (cr_sum rfl) cs_sum (by rfl) T.n_sum (by decide +kernel) (ra_cons (re_fe (rf_lc rfl sc_bits_of.nd (ri_rng1 (by rfl) T.n_range (ra_cons re_int ra_nil)) (blkOk_by (own := [("letter", 1)]) rfl) rfl (all_dat rfl) (fun _ _ _ _ _ => (rg_name rfl rfl (pg_name (i := 1) sc_bits_of.nd rfl (by first | exact Or.inl rfl | exact Or.inr rfl)))) (fun _ _ _ _ _ => (rts_one (rt_cmp (op_inA (hu65 hr)) os_in (re_var rfl (pv 1)) (re_var rfl (pv 0)) (by rfl)))) (fun _ _ _ _ _ => (re_ix ix_seq os_ix (re_cst (pe_glob rfl T.g_POWERS (RelV_POWERS T)) (rep_POWERS T)) (re_var rfl (pv 1)) (fun _ _ => rfl))))) ra_nil))))
theorem ok__law_is_number (T : Tx K mg) : FnOk P w K mg base (L2.CX P w) 1 T.a__law_is_number T.d__law_is_number ["_law_x"] (spF K [.dat] .dat cl f__law_is_number) := by
  refine ok_def (pm := [.dat]) (gs := [.dat]) (rm := .dat) (cl := cl) T.F__law_is_number sc__law_is_number rfl (by decide) rfl (by decide) (fun cdv A outer s H E hr => ?_)
  have tk := takes_of (X := cxOf (L2.CX P w) P w K mg base ["_law_x"] "_law_is_number" (defScope s__law_is_number) T.a__law_is_number cdv A outer s H E) (E := E) rfl rfl rfl rfl
  exact (rs_one (rs_ret rfl (re_and (re_isi (T := .int) (by rfl) T.n_isinstance (re_var rfl (pv 0)) (pe_bltn (by rfl) T.n_int (by decide +kernel) rfl) rfl) (pe_one (re_not (re_isi (T := .bool) (by rfl) T.n_isinstance (re_var rfl (pv 0)) (pe_bltn (by rfl) T.n_bool (by decide +kernel) rfl) rfl))))))
theorem ok_law (T : Tx K mg) : FnOk P w K mg base (L2.CX P w) 3 T.a_law T.d_law ["_law_script"] (spF K [.dat] .dat cl f_law) := by
  refine ok_def (pm := [.dat]) (gs := [.dat, .ol, .dat, .dat, .dat, .ol, .dat, .dat, .dat, .dat, .dat]) (rm := .dat) (cl := cl) T.F_law sc_law rfl (by decide) rfl (by decide) (fun cdv A outer s H E hr => ?_)
  have tk := takes_of (X := cxOf (L2.CX P w) P w K mg base ["_law_script", "_law_box_here", "_law_n", "_law_bits", "_law_due", "_law_told", "_law_letters", "_law_kept", "_law_total", "_law_a", "_law_k"] "law" (defScope s_law) T.a_law cdv A outer s H E) (E := E) rfl rfl rfl rfl
  exact (rs_cons (rs_asgF (md := .ol) rfl rfl (ps_set (i := 1) sc_law.nd rfl (Or.inr rfl) (rf_call (E := E) (ok__law_box T) (hr.mono (by decide)) (by rfl) T.g__law_box T.F__law_box.kp T.b__law_box (passes_call tk fun _ _ _ _ h => h) (fun _ _ _ h => h) (ra_cons (re_var rfl (pv 0)) ra_nil) (by rfl) (by decide))))
  (rs_cons (rs_asg rfl rfl (ps_set (i := 2) sc_law.nd rfl (Or.inr rfl) (re_call (E := E) (ok__law_take T) (hr.mono (by decide)) (by rfl) T.g__law_take T.F__law_take.kp T.b__law_take (passes_call tk fun _ _ _ _ h => h) (fun _ _ _ h => h) (ra_cons (pv 1) (ra_cons re_int ra_nil)) (by rfl) (by decide))))
  (rs_cons (rs_asg rfl rfl (ps_set (i := 3) sc_law.nd rfl (Or.inr rfl) (re_call (E := E) (ok__law_take T) (hr.mono (by decide)) (by rfl) T.g__law_take T.F__law_take.kp T.b__law_take (passes_call tk fun _ _ _ _ h => h) (fun _ _ _ h => h) (ra_cons (pv 1) (ra_cons (re_ix ix_seq os_ix (re_fe (rf_lst (ms := [(cst (.int 1)), (cst (.int 2)), (cst (.int 4)), (cst (.int 8)), (cst (.int 16)), (cst (.int 32))]) (ra_cons (o := .d _) re_int (ra_cons (o := .d _) re_int (ra_cons (o := .d _) re_int (ra_cons (o := .d _) re_int (ra_cons (o := .d _) re_int (ra_cons (o := .d _) re_int ra_nil)))))))) (re_var rfl (pv 2)) (fun _ _ => rfl)) ra_nil)) (by rfl) (by decide))))
  (rs_cons (rs_asg rfl rfl (asg_fe (rs_setLc (i := 4) rfl sc_law.nd rfl rfl (sw_true rfl rfl rfl (by decide +kernel)) (ri_rng1 (by rfl) T.n_range (ra_cons (re_var rfl (pv 2)) ra_nil)) (blkOk_by (own := [("_law_a", 9)]) rfl) rfl (all_dat rfl) (fun _ _ _ _ _ => (rg_name rfl rfl (pg_name (i := 9) sc_law.nd rfl (by first | exact Or.inl rfl | exact Or.inr rfl)))) (fun _ _ _ _ _ => (rts_one (rt_cmp (op_eqD hr.units) os_eq (re_bin op_mod os_mod (re_bin op_fdiv os_fdv (re_callTy call_int1 cs_int (by rfl) T.n_int (by decide +kernel) (ra_cons (re_var rfl (pv 3)) ra_nil)) (re_ix ix_seq os_ix (re_fe (rf_lst (ms := [(cst (.int 1)), (cst (.int 2)), (cst (.int 4)), (cst (.int 8)), (cst (.int 16))]) (ra_cons (o := .d _) re_int (ra_cons (o := .d _) re_int (ra_cons (o := .d _) re_int (ra_cons (o := .d _) re_int (ra_cons (o := .d _) re_int ra_nil))))))) (re_var rfl (pv 9)) (fun _ _ => rfl))) re_int) re_int (nomark _)))) (fun _ _ _ _ _ => (re_var rfl (pv 9))))))
  (rs_cons (rs_asgF (md := .ol) rfl rfl (ps_set (i := 5) sc_law.nd rfl (Or.inl rfl) (rf_call (E := E) (ok_members T) (hr.mono (by decide)) (by rfl) T.g_members T.F_members.kp T.b_members (passes_call tk fun _ _ _ _ h => h) (fun _ _ _ h => h) (ra_cons (re_var rfl (pv 2)) (ra_cons (re_var rfl (pv 3)) ra_nil)) (by rfl) (by decide))))
  (rs_cons (rs_if (rw_or (rt_not (rt_val (re_isi (T := .list) (by rfl) T.n_isinstance (pv 5) (pe_bltn (by rfl) T.n_list (by decide +kernel) rfl) rfl))) (rw_or (rt_cmp (op_neD hr.units) os_ne (pv 5) (re_var rfl (pv 4)) (nomark _)) (rw_or1 (rt_cmp (op_inA (hu65 hr)) os_in re_bl (re_fe (rf_lcO rfl rfl sc_law.nd (pv 5) rfl (by decide) (blkOk_by (own := [("_law_a", 9)]) rfl) rfl (all_dat rfl) (fun _ _ _ _ _ => (rg_name rfl rfl (pg_name (i := 9) sc_law.nd rfl (by first | exact Or.inl rfl | exact Or.inr rfl)))) (fun _ _ _ _ _ => rts_nil) (fun _ _ _ _ _ => (re_call (E := E0) (ok__law_is_number T) (hr.mono (by decide)) (by rfl) T.g__law_is_number T.F__law_is_number.kp T.b__law_is_number passL (fun _ _ _ h => h) (ra_cons (re_var rfl (pv 9)) ra_nil) (by rfl) (by decide))))) (by rfl))))).pt
  (rs_one (rs_ret rfl re_bl))
  rs_nil)
  (rs_cons (rs_app (m := (cst (.int 9))) rfl (ps_expr (pe_bm PySem.F.plainAttrs_list PySem.F.slot_list_append PySem.F.type_list_append mt_append (pv 5) (pa_cons re_int pa_nil))))
  (rs_cons (rs_if (rw_or (rt_cmp (op_neD hr.units) os_ne (re_fe (rf_call (E := E) (ok_members T) (hr.mono (by decide)) (by rfl) T.g_members T.F_members.kp T.b_members (passes_call tk fun _ _ _ _ h => h) (fun _ _ _ h => h) (ra_cons (re_var rfl (pv 2)) (ra_cons (re_var rfl (pv 3)) ra_nil)) (by rfl) (by decide))) (re_var rfl (pv 4)) (nomark _)) (rw_or (rt_cmp (op_neD hr.units) os_ne (re_call (E := E) (ok_bits_of T) (hr.mono (by decide)) (by rfl) T.g_bits_of T.F_bits_of.kp T.b_bits_of (passes_call tk fun _ _ _ _ h => h) (fun _ _ _ h => h) (ra_cons (re_var rfl (pv 4)) ra_nil) (by rfl) (by decide)) (re_var rfl (pv 3)) (nomark _)) (rw_or1 (rt_not (rt_val (re_call (E := E) (ok__law_is_number T) (hr.mono (by decide)) (by rfl) T.g__law_is_number T.F__law_is_number.kp T.b__law_is_number (passes_call tk fun _ _ _ _ h => h) (fun _ _ _ h => h) (ra_cons (re_call (E := E) (ok_bits_of T) (hr.mono (by decide)) (by rfl) T.g_bits_of T.F_bits_of.kp T.b_bits_of (passes_call tk fun _ _ _ _ h => h) (fun _ _ _ h => h) (ra_cons (re_var rfl (pv 4)) ra_nil) (by rfl) (by decide)) ra_nil) (by rfl) (by decide))))))).pt
  (rs_one (rs_ret rfl re_bl))
  rs_nil)
  (rs_cons (rs_asg rfl rfl (asg_fe (rs_setLc (i := 6) rfl sc_law.nd rfl rfl (sw_true rfl rfl rfl (by decide +kernel)) (ri_rng1 (by rfl) T.n_range (ra_cons (re_bin op_mul os_mul (re_call (E := E) (ok__law_take T) (hr.mono (by decide)) (by rfl) T.g__law_take T.F__law_take.kp T.b__law_take (passes_call tk fun _ _ _ _ h => h) (fun _ _ _ h => h) (ra_cons (pv 1) (ra_cons re_int ra_nil)) (by rfl) (by decide)) (re_callB (call_min2 rfl) cs_min2 (by rfl) T.n_min (by decide +kernel) (ra_cons (re_var rfl (pv 2)) (ra_cons re_int ra_nil)))) ra_nil)) (blkOk_by (own := [("_law_k", 10)]) rfl) rfl (all_dat rfl) (fun _ _ _ _ _ => (rg_name rfl rfl (pg_name (i := 10) sc_law.nd rfl (by first | exact Or.inl rfl | exact Or.inr rfl)))) (fun _ _ _ _ _ => rts_nil) (fun _ _ _ _ _ => (re_call (E := E0) (ok__law_take T) (hr.mono (by decide)) (by rfl) T.g__law_take T.F__law_take.kp T.b__law_take passL (fun _ _ _ h => h) (ra_cons (pv 1) (ra_cons (re_callB (call_max2 rfl) cs_max2 (by rfl) T.n_max (by decide +kernel) (ra_cons (re_var rfl (pv 2)) (ra_cons re_int ra_nil))) ra_nil)) (by rfl) (by decide))))))
  (rs_cons (rs_asg rfl rfl (ps_set (i := 7) sc_law.nd rfl (Or.inl rfl) (re_fe (rf_callTy call_list_of cn_list (by rfl) T.n_list (by decide +kernel) (ra_cons (re_var rfl (pv 6)) ra_nil)))))
  (rs_cons (rs_asg rfl rfl (ps_set (i := 8) sc_law.nd rfl (Or.inl rfl) re_int))
  (rs_cons (rs_for (passes_of rfl) rfl (ri_rng1 (by rfl) T.n_range (ra_cons (re_var rfl (pv 2)) ra_nil)) (rg_name rfl rfl (pg_name (i := 9) sc_law.nd rfl (by first | exact Or.inl rfl | exact Or.inr rfl)))
  (rs_one (rs_if (rt_cmp (op_inA (hu65 hr)) os_in (re_var rfl (pv 9)) (re_var rfl (pv 6)) (by rfl))
  (rs_one (rs_asg rfl rfl (ps_set (i := 8) sc_law.nd rfl (Or.inl rfl) (re_bin op_addA os_add (re_var rfl (pv 8)) (re_ix ix_seq os_ix (re_fe (rf_lst (ms := [(cst (.int 1)), (cst (.int 2)), (cst (.int 4)), (cst (.int 8)), (cst (.int 16))]) (ra_cons (o := .d _) re_int (ra_cons (o := .d _) re_int (ra_cons (o := .d _) re_int (ra_cons (o := .d _) re_int (ra_cons (o := .d _) re_int ra_nil))))))) (re_var rfl (pv 9)) (fun _ _ => rfl))))))
  rs_nil)))
  (rs_one (rs_ret rfl (re_and (re_cmp (op_eqD hr.units) os_eq (re_call (E := E) (ok_bits_of T) (hr.mono (by decide)) (by rfl) T.g_bits_of T.F_bits_of.kp T.b_bits_of (passes_call tk fun _ _ _ _ h => h) (fun _ _ _ h => h) (ra_cons (re_var rfl (pv 6)) ra_nil) (by rfl) (by decide)) (re_var rfl (pv 8)) (nomark _)) (re_and (re_cmp (op_eqD hr.units) os_eq (re_var rfl (pv 6)) (re_var rfl (pv 7)) (nomark _)) (pe_one (re_cmp (op_eqD hr.units) os_eq (re_fe (rf_call (E := E) (ok_members T) (hr.mono (by decide)) (by rfl) T.g_members T.F_members.kp T.b_members (passes_call tk fun _ _ _ _ h => h) (fun _ _ _ h => h) (ra_cons (re_var rfl (pv 2)) (ra_cons (re_call (E := E) (ok_bits_of T) (hr.mono (by decide)) (by rfl) T.g_bits_of T.F_bits_of.kp T.b_bits_of (passes_call tk fun _ _ _ _ h => h) (fun _ _ _ h => h) (ra_cons (re_var rfl (pv 6)) ra_nil) (by rfl) (by decide)) ra_nil)) (by rfl) (by decide))) (re_fe (rf_sortset rfl rfl (by rfl) T.n_sorted (by rfl) T.n_set (re_var rfl (pv 6)))) (nomark _)))))))))))))))))))
end
def dd__law_box : He.DefD := ⟨("_law_box", none), "_law_box", "_law_box", defArgs s__law_box, defBody s__law_box, defScope s__law_box, [], []⟩
def dd__law_take : He.DefD := ⟨("_law_take", none), "_law_take", "_law_take", defArgs s__law_take, defBody s__law_take, defScope s__law_take, [], []⟩
def dd_has : He.DefD := ⟨("has", none), "has", "has", defArgs s_has, defBody s_has, defScope s_has, [], []⟩
def dd_members : He.DefD := ⟨("members", none), "members", "members", defArgs s_members, defBody s_members, defScope s_members, [], []⟩
def dd_bits_of : He.DefD := ⟨("bits_of", none), "bits_of", "bits_of", defArgs s_bits_of, defBody s_bits_of, defScope s_bits_of, [], []⟩
def dd__law_is_number : He.DefD := ⟨("_law_is_number", none), "_law_is_number", "_law_is_number", defArgs s__law_is_number, defBody s__law_is_number, defScope s__law_is_number, [], []⟩
def dd_law : He.DefD := ⟨("law", none), "law", "law", defArgs s_law, defBody s_law, defScope s_law, [], []⟩
def fnl : List He.DefD := [dd__law_box, dd__law_take, dd_has, dd_members, dd_bits_of, dd__law_is_number, dd_law]
def fal : List He.Fa := [.glo "_law_box", .glo "_law_take", .glo "has", .glo "members", .glo "bits_of", .glo "_law_is_number", .glo "law", .free "int", .free "abs", .free "len", .free "range", .free "sum", .free "isinstance", .free "bool", .free "list", .free "min", .free "max", .free "sorted", .free "set", .glo "POWERS"]
def exl (K : PySem.W.Frag) : List Bool := [true, He.tupB K "POWERS" [(.int 1), (.int 2), (.int 4), (.int 8), (.int 16)]]
abbrev R : PySem.W.OpenRow := PySem.W.OpenLaw.row PySem.Challenge.rw_spandrel_k01_sets_of_letters
abbrev hk : PySem.W.Hook := hookZ 4 fal fnl (fun K => (exl K).all id)
def ob (s : PySem.W.SharedT) : He.AlD × Bool := obsZ 4 fal fnl (fun K => (exl K).all id) (HandSHeadRun.getT s)
theorem ob_eq (s : PySem.W.SharedT) : ob s = hk.obs s.abs := obsZ_eq (HandSHeadRun.getT_eq s)
def loose : List Str := ["POWERS", "has", "members", "bits_of", "_law_box", "_law_take", "_law_pick", "_law_is_number"]
theorem run (w : World) : HandSHeadRun.RunEq R (PySem.W.view R.prog [10]) hk ob 860 loose w := by
  intro os
  kernel_rfl
theorem facts {K : PySem.W.Frag} {h : Heap} {mg : Str → Option Value} (X : K.In h) (G : h.Ns mainGlobals mg) (c : He.SaysD fal fnl K) (cx : (exl K).all id = true) : Nonempty (Tx K mg) := by
  obtain ⟨d0, F0⟩ := c.def_ 0 (d := dd__law_box) rfl
  obtain ⟨d1, F1⟩ := c.def_ 1 (d := dd__law_take) rfl
  obtain ⟨d2, F2⟩ := c.def_ 2 (d := dd_has) rfl
  obtain ⟨d3, F3⟩ := c.def_ 3 (d := dd_members) rfl
  obtain ⟨d4, F4⟩ := c.def_ 4 (d := dd_bits_of) rfl
  obtain ⟨d5, F5⟩ := c.def_ 5 (d := dd__law_is_number) rfl
  obtain ⟨d6, F6⟩ := c.def_ 6 (d := dd_law) rfl
  have x_POWERS := exAt cx 1 (b := He.tupB K "POWERS" [(.int 1), (.int 2), (.int 4), (.int 8), (.int 16)]) rfl
  exact ⟨⟨He.fAd K ("_law_box", none),
    d0,
    He.fAd K ("_law_take", none),
    d1,
    He.fAd K ("has", none),
    d2,
    He.fAd K ("members", none),
    d3,
    He.fAd K ("bits_of", none),
    d4,
    He.fAd K ("_law_is_number", none),
    d5,
    He.fAd K ("law", none),
    d6,
    (.ref (He.ga K "POWERS")),
    F0,
    He.glo_ok X G (c.fact 0 (f := .glo "_law_box") rfl),
    F0.bindsN fun _ _ _ _ _ _ us hl => match us, hl with | [_], _ => rfl,
    F1,
    He.glo_ok X G (c.fact 1 (f := .glo "_law_take") rfl),
    F1.bindsN fun _ _ _ _ _ _ us hl => match us, hl with | [_, _], _ => rfl,
    F2,
    He.glo_ok X G (c.fact 2 (f := .glo "has") rfl),
    F2.bindsN fun _ _ _ _ _ _ us hl => match us, hl with | [_, _], _ => rfl,
    F3,
    He.glo_ok X G (c.fact 3 (f := .glo "members") rfl),
    F3.bindsN fun _ _ _ _ _ _ us hl => match us, hl with | [_, _], _ => rfl,
    F4,
    He.glo_ok X G (c.fact 4 (f := .glo "bits_of") rfl),
    F4.bindsN fun _ _ _ _ _ _ us hl => match us, hl with | [_], _ => rfl,
    F5,
    He.glo_ok X G (c.fact 5 (f := .glo "_law_is_number") rfl),
    F5.bindsN fun _ _ _ _ _ _ us hl => match us, hl with | [_], _ => rfl,
    F6,
    He.glo_ok X G (c.fact 6 (f := .glo "law") rfl),
    F6.bindsN fun _ _ _ _ _ _ us hl => match us, hl with | [_], _ => rfl,
    He.glo_ok X G (c.fact 19 (f := .glo "POWERS") rfl),
    ⟨.ref (He.ga K "POWERS"), rfl, tup_rep (fun H => He.tupB_ok x_POWERS H) (by intro O H; exact ⟨_, _, rfl, rfl, ⟨_, _, rfl, rfl, ⟨_, _, rfl, rfl, ⟨_, _, rfl, rfl, ⟨_, _, rfl, rfl, rfl⟩⟩⟩⟩⟩)⟩,
    He.free_ok X G (c.fact 7 (f := .free "int") rfl),
    He.free_ok X G (c.fact 8 (f := .free "abs") rfl),
    He.free_ok X G (c.fact 9 (f := .free "len") rfl),
    He.free_ok X G (c.fact 10 (f := .free "range") rfl),
    He.free_ok X G (c.fact 11 (f := .free "sum") rfl),
    He.free_ok X G (c.fact 12 (f := .free "isinstance") rfl),
    He.free_ok X G (c.fact 13 (f := .free "bool") rfl),
    He.free_ok X G (c.fact 14 (f := .free "list") rfl),
    He.free_ok X G (c.fact 15 (f := .free "min") rfl),
    He.free_ok X G (c.fact 16 (f := .free "max") rfl),
    He.free_ok X G (c.fact 17 (f := .free "sorted") rfl),
    He.free_ok X G (c.fact 18 (f := .free "set") rfl),
    FunD.bindsA (ps := ["_law_script"]) F6 fun _ _ _ _ _ _ us hl => match us, hl with | [_], _ => rfl⟩⟩
end G
open PySem PySem.W PySem.Calls PyProof.Rows
theorem G.law_end (hlaw : ∀ ns : List Int, ns.length ≤ 63 → ∃ ds, G.f_law [.lst (ns.map .int)] = .ok (.bl true) ds) : PySem.Challenge.rw_spandrel_k01_sets_of_letters.Holds := by
  w_on; o_law
  refine HandSHeadRun.head_any (r := OpenLaw.row PySem.Challenge.rw_spandrel_k01_sets_of_letters) (q := view (OpenLaw.row PySem.Challenge.rw_spandrel_k01_sets_of_letters).prog [10]) (H := G.hk) (ob := G.ob) (M := 860) (loose := G.loose) (d := HandSHeadRun.topDef (OpenLaw.row PySem.Challenge.rw_spandrel_k01_sets_of_letters).prog 10) (kwd := []) G.ob_eq
    (by kernel_rfl) (fun s => by kernel_rfl) G.run (by kernel_rfl) (by kernel_rfl) (by kernel_rfl) (by rfl) (by first | assumption | decide +kernel) (by decide +kernel) ⟨rfl, rfl, rfl, rfl, rfl, by decide +kernel⟩ ?hw ?hc
  case hw => w_witness2
  case hc =>
    refine L2.walk_ofE (l := PySem.Challenge.rw_spandrel_k01_sets_of_letters) (n := 63) (k := 3) (x := "_law_script") (CX := L2.CX0) rfl (by decide) (by kernel_rfl) ⟨rfl, by decide, by decide⟩ ?F (fun _ _ _ _ z => z)
    intro w mg fa h Y GG hmg0
    obtain ⟨K, KX, c, cx⟩ := Y
    have hmg : mg ("law" : PySem.Str) = some (.ref fa) := by
      have e : (HandSHeadRun.topDef (OpenLaw.row PySem.Challenge.rw_spandrel_k01_sets_of_letters).prog 10).name = ("law" : PySem.Str) := by kernel_rfl
      rw [← e]
      exact hmg0
    obtain ⟨T⟩ := G.facts KX GG c cx
    have ea : T.a_law = fa := by
      have q := T.g_law.symm.trans hmg
      cases q
      rfl
    refine ⟨K, T.d_law, fun vs H Q _ => Lk.spF K [.dat] .dat G.cl G.f_law vs H Q L2.E0, KX, fun s u => T.bA s [u] rfl, fun H a ns hl hO hS => ?_, fun base _ _ => ?_⟩
    · obtain ⟨ds, e⟩ := hlaw ns hl
      exact Lk.sp_law hO hS e
    · rw [← ea]
      exact Lk.FnOk.calm (G.ok_law T)


end
section
namespace G
open Cr
/-! ### the box of draws -/
def box (a b c : Int) (cs : List Int) : D := .lst [.int a, .int b, .int c, .lst (cs.map D.int)]
structure Box (d : D) : Prop where
  ex : ∃ a b c cs, d = box a b c cs ∧ 0 ≤ c
theorem box_ok (ns : List Int) (h : ns.length ≤ 63) : ∃ d, f__law_box [.lst (ns.map .int)] = .ok d [.lst (ns.map .int)] ∧ Box d := by
  refine ⟨box 0 0 0 (ns.map fun n => if n < 0 then -n else n), ?_, ⟨0, 0, 0, _, rfl, by decide⟩⟩
  have hc := lc1 (i := 1) (it := itE (rd 0)) (c := pu true) (x := callB bAbs [(.d (callB bInt [(.d (rd 1))]))]) (e := [some (.lst (ns.map .int)), none]) (ds := ns.map .int) (fun _ => true) (fun d => match d with | .int n => .int (if n < 0 then -n else n) | d => d)
    (by simp) (by simp) (by simp; omega) (by
      intro d hd
      obtain ⟨n, _, rfl⟩ := List.mem_map.mp hd
      exact ⟨rfl, fun _ => by simp⟩)
  have hf : (ns.map D.int).filter (fun _ => true) = ns.map D.int := List.filter_eq_self.mpr (by simp)
  rw [hf] at hc
  simp only [f__law_box, fnOf, s_retS, s_lstE, s_seq0, s_seq1, s_bd, s_cst, s_pu, List.map_cons, List.map_nil, List.length_cons, List.length_nil, List.replicate, List.cons_append, List.nil_append, Nat.reduceAdd, Nat.reduceSub, hc, finM]
  simp [box, List.map_map, Function.comp_def]
theorem take_ok (d : D) (m : Int) (hb : Box d) (h1 : 0 < m) (h2 : m < 1073741824) : ∃ r d', f__law_take [d, .int m] = .ok (.int r) [d', .int m] ∧ Box d' ∧ 0 ≤ r ∧ r < m := by
  obtain ⟨a, b, c, cs, rfl, hc⟩ := hb.ex
  have mm : ∀ x : Int, 0 ≤ x % m ∧ x % m < m := fun x => ⟨Int.emod_nonneg _ (by omega), Int.emod_lt_of_pos _ h1⟩
  have hm : m ≠ 0 := by omega
  have bx : ∀ a b c : Int, 0 ≤ c → Box (.lst [.int a, .int b, .int c, .lst (cs.map D.int)]) := fun a b c h => ⟨a, b, c, cs, rfl, h⟩
  by_cases hb0 : b = 0
  · subst hb0
    by_cases hlt : c < (cs.length : Int)
    · obtain ⟨z, hz⟩ : ∃ z, cs[c.toNat]? = some z := ⟨_, List.getElem?_eq_getElem (by omega)⟩
      by_cases hbig : (1000000000000000000 : Int) ≤ z
      · by_cases ha : 0 < z / m
        · simp [f__law_take, fnOf, box, finM, hlt, hz, hbig, ha, at_int _ hc, h1, h2]
          exact ⟨_, _, ⟨rfl, rfl⟩, bx _ _ _ (by omega), mm _⟩
        · simp [f__law_take, fnOf, box, finM, hlt, hz, hbig, ha, at_int _ hc, h1, h2]
          exact ⟨_, _, ⟨rfl, rfl⟩, bx _ _ _ (by omega), mm _⟩
      · simp [f__law_take, fnOf, box, finM, hlt, hz, hbig, at_int _ hc, h1, h2]
        exact ⟨_, _, ⟨rfl, rfl⟩, bx _ _ _ (by omega), mm _⟩
    · simp [f__law_take, fnOf, box, finM, hlt, h1, h2]
      exact ⟨_, _, ⟨rfl, rfl⟩, bx _ _ _ (by omega), by omega, h1⟩
  · by_cases hb : 0 < b
    · by_cases ha : 0 < a / m
      · simp [f__law_take, fnOf, box, finM, hb0, hb, ha, h1, h2]
        exact ⟨_, _, ⟨rfl, rfl⟩, bx _ _ _ hc, mm _⟩
      · simp [f__law_take, fnOf, box, finM, hb0, hb, ha, h1, h2]
        exact ⟨_, _, ⟨rfl, rfl⟩, bx _ _ _ hc, mm _⟩
    · simp [f__law_take, fnOf, box, finM, hb0, hb, h1, h2]
      exact ⟨_, _, ⟨rfl, rfl⟩, bx _ _ _ hc, mm _⟩

/-! ### letters and sets -/
theorem has_ok (b : Int) {a : Nat} (h : a < 5) : f_has [.int b, .int a] = .ok (.bl (b / pw a % 2 == 1)) [.int b, .int a] := by
  rcases lt5 h with rfl | rfl | rfl | rfl | rfl <;> simp [f_has, fnOf, c_POWERS, finM, pw]
theorem members_ok {n : Nat} (hn : n ≤ 5) (b : Int) : f_members [.int n, .int b] = .ok (.lst ((memI n b).map .int)) [.int n, .int b] := by
  have h1 : (-1000000 : Int) ≤ n ∧ (n : Int) ≤ 1000000 := by omega
  refine fn_ret (e := [some (.int n), some (.int b), none]) (ret_ok ?_) rfl
  rw [← memI_map]
  exact lcR (fun a => b / pw a % 2 == 1) (fun a => .int a) (by simp) (by simp [h1]) (by omega) (fun a ha => by simp [has_ok b (a := a) (by omega)])
theorem bits_ok (L : List Int) : f_bits_of [.lst (L.map .int)] = .ok (.int (bitsI L)) [.lst (L.map .int)] := by
  have hc := lcR (i := 1) (it := itR rng1 [(.d (cst (.int 5)))]) (c := tstB (bin gIn (.d (rd 1)) (.d (rd 0)))) (x := bin gIx (.d c_POWERS) (.d (rd 1))) (e := [some (.lst (L.map .int)), none]) (n := 5)
    (inI L) (fun a => .int (pw a)) (by simp) (by simp) (by omega) (fun a ha => ⟨by simp [gIn_ints, inI], fun _ => by rcases lt5 ha with rfl | rfl | rfl | rfl | rfl <;> simp [c_POWERS, pw]⟩)
  have e : ((List.range 5).filter (inI L)).map (fun a => D.int (pw a)) = (((List.range 5).filter (inI L)).map pw).map D.int := by simp
  rw [e] at hc
  refine fn_ret (e := [some (.lst (L.map .int)), none]) (ret_ok ?_) rfl
  simp only [List.map_cons, List.map_nil, List.length_cons, List.length_nil, List.replicate, List.cons_append, List.nil_append, Nat.reduceAdd, Nat.reduceSub, s_callB, s_opds, s_p1d, s_p10, s_p2d, s_p20, s_bd, s_pu, hc, s_sum, s_os]
  rfl
theorem isnum_ok (i : Int) : f__law_is_number [.int i] = .ok (.bl true) [.int i] := by
  simp [f__law_is_number, fnOf, finM, gIsi, isi]

theorem law_true (ns : List Int) (hn : ns.length ≤ 63) : ∃ ds, f_law [.lst (ns.map .int)] = .ok (.bl true) ds := by
  obtain ⟨d0, hb, B0⟩ := box_ok ns hn
  obtain ⟨n', d1, ht1, B1, n0, n6⟩ := take_ok d0 6 B0 (by decide) (by decide)
  obtain ⟨n, rfl⟩ := Int.eq_ofNat_of_zero_le n0
  have n6' : n < 6 := by omega
  obtain ⟨b', d2, ht2, B2, b0, b6⟩ := take_ok d1 (2 ^ n) B1 (Int.pow_pos (by decide)) (by exact pw6b n n6')
  obtain ⟨b, rfl⟩ := Int.eq_ofNat_of_zero_le b0
  have b6' : b < 2 ^ n := by
    have : ((b : Nat) : Int) < ((2 ^ n : Nat) : Int) := by rw [Int.natCast_pow]; exact b6
    omega
  have h1' : (-1000000 : Int) ≤ n ∧ (n : Int) ≤ 1000000 := by omega
  have h1 : (-1000000 : Int) ≤ n ∧ (n : Int) ≤ 1000000 := by omega
  have hm := members_ok (n := n) (by omega) (b : Int)
  suffices h : ∃ d r, f_law [.lst (ns.map .int)] = .ok d r ∧ d = .bl true by
    obtain ⟨d, r, h, rfl⟩ := h
    exact ⟨r, h⟩
  refine fn_wp ?_
  refine seq_step (by simp [hb]; rfl) ?_
  refine seq_step (by simp [ht1]; rfl) ?_
  refine seq_step (by simp [pow6 _ n6', ht2]; rfl) ?_
  refine seq_step (asg_ok (lcR (n := n) (fun a => (b : Int) / pw a % 2 == 1) (fun a => .int a) (by simp) (by simp [h1]) (by omega) (fun a ha => by
    have := pwb a (by omega)
    simp [pow5 a (by omega), this])) (by simp)) ?_
  rw [memI_map]
  refine seq_step (by simp [hm]; rfl) ?_
  refine seq_if_f (e1 := [some (D.lst (ns.map .int)), some d2, some (.int n), some (.int b), some (.lst ((memI n b).map .int)), some (.lst ((memI n b).map .int)), none, none, none, none, none]) (by
    have hl : (memI n b).length < 1000000 := by
      have : (memI n b).length ≤ n := by simp only [memI, List.length_map]; exact Nat.le_trans (List.length_filter_le _ _) (by simp)
      omega
    have hc := lcO1 (i := 5) (j := 9) (c := pu true) (x := callF f__law_is_number [(.d (rd 9))]) (ds := (memI n b).map .int) (e := [some (D.lst (ns.map .int)), some d2, some (.int n), some (.int b), some (.lst ((memI n b).map .int)), some (.lst ((memI n b).map .int)), none, none, none, none, none])
      (fun _ => true) (fun _ => .bl true) (by simp) (by decide) rfl (by simpa using hl) (by
        intro d hd
        obtain ⟨i, _, rfl⟩ := List.mem_map.mp hd
        exact ⟨rfl, fun _ => by simp [isnum_ok]⟩)
    rw [List.filter_eq_self.mpr (by simp)] at hc
    have hf := gIn_ff (((memI n b).map D.int).map fun _ => D.bl true) (by simp)
    simp [gIsi, isi, gNe_ints, hc, hf, -List.map_map,]) ?_
  have hl : (memI n b).length < 1000000 := by
    have : (memI n b).length ≤ n := by simp only [memI, List.length_map]; exact Nat.le_trans (List.length_filter_le _ _) (by simp)
    omega
  refine seq_step (by simp [LIM, hl]; rfl) ?_
  have hf := fact1 n n6' b b6'
  refine seq_if_f (by simp [hm, gNe_ints, bits_ok, hf, isnum_ok]; rfl) ?_
  -- the letters
  obtain ⟨k, d3, ht3, B3, k0, k8⟩ := take_ok d2 8 B2 (by decide) (by decide)
  obtain ⟨k, rfl⟩ := Int.eq_ofNat_of_zero_le k0
  have hmn : (if ((1 : Int) < n) then (1 : Int) else n) = if n = 0 then 0 else 1 := by by_cases h : n = 0 <;> simp [h] <;> omega
  have hmx : (if ((1 : Int) > n) then (1 : Int) else n) = if n = 0 then 1 else (n : Int) := by by_cases h : n = 0 <;> simp [h] <;> omega
  have hkn : ((k : Int) * if n = 0 then 0 else 1) = ((if n = 0 then 0 else k : Nat) : Int) := by by_cases h : n = 0 <;> simp [h]
  have hk1 : (if n = 0 then 0 else k) ≤ 7 := by by_cases h : n = 0 <;> simp [h] <;> omega
  generalize hkk : (if n = 0 then 0 else k) = kk at hkn hk1
  refine seq_wp (asg_wp (lc_wp (ds := rangeD 0 kk) (e1 := [some (D.lst (ns.map .int)), some d3, some (.int n), some (.int b), some (.lst ((memI n b).map .int)), some (.lst ((memI n b).map .int ++ [.int 9])), none, none, none, none, none])
    (fun j acc e' => ∃ L : List Int, ∃ d, acc = L.map .int ∧ (∀ a ∈ L, 0 ≤ a ∧ a < n) ∧ L.length = j ∧ Box d ∧ e' = [some (D.lst (ns.map .int)), some d, some (.int n), some (.int b), some (.lst ((memI n b).map .int)), some (.lst ((memI n b).map .int ++ [.int 9])), none, none, none, none, none]) ?_ (by simp [rangeD]; omega) ?_ ?_ ?_))
  · have e1 : sm (k : Int) := sm_of (by omega) (by omega)
    have e2 : (-1000000 : Int) ≤ kk ∧ (kk : Int) ≤ 1000000 := by omega
    simp [ht3, hmn, hkn, e1, e2]
  · exact ⟨[], d3, by simp, by simp, by simp, B3, rfl⟩
  · intro j d acc e' hj ⟨L, d', h1, h2, h3, h4, h5⟩
    subst h5
    have hn0 : n ≠ 0 := by
      intro h
      have := (List.getElem?_eq_some_iff.mp hj).1
      simp [rangeD, ← hkk, h] at this
    obtain ⟨r, d4, q1, q2, q3, q4⟩ := take_ok d' n h4 (by omega) (by omega)
    have : (if ((1 : Int) > n) then (1 : Int) else n) = n := by rw [hmx, if_neg hn0]
    refine ⟨_, by simp; rfl, wp_i (a := true) rfl ?_⟩
    rw [if_pos rfl]
    refine wp_i (by simp [this, q1]; exact ⟨rfl, rfl⟩) ?_
    exact ⟨L ++ [r], d4, by simp [h1], by intro a ha; rcases List.mem_append.mp ha with h | h; exact h2 a h; rw [List.mem_singleton.mp h]; exact ⟨q3, q4⟩, by simp [h3], q2, by simp [wipe_1]⟩
  · intro ys e2 ⟨L, d', h1, h2, h3, h4, h5⟩
    subst h1
    have hl7 : L.length ≤ 7 := by simp [rangeD] at h3; omega
    rw [wipe_rest (by rw [← wipe_len e2 [10], h5]; rfl) rfl, h5]
    clear h5 e2
    refine ⟨by simp, rfl, ?_⟩
    refine seq_step (by simp; rfl) ?_
    refine seq_step (by simp; rfl) ?_
    refine seq_wp (for_wp (ds := rangeD 0 n) (fun j e' => ∃ z, e' = [some (D.lst (ns.map .int)), some d', some (.int n), some (.int b), some (.lst ((memI n b).map .int)), some (.lst ((memI n b).map .int ++ [.int 9])), some (.lst (L.map .int)), some (.lst (L.map .int)), some (.int (bitsK (inI L) j)), z, none]) (e1 := [some (D.lst (ns.map .int)), some d', some (.int n), some (.int b), some (.lst ((memI n b).map .int)), some (.lst ((memI n b).map .int ++ [.int 9])), some (.lst (L.map .int)), some (.lst (L.map .int)), some (.int 0), none, none]) (by simp [h1']) ⟨none, rfl⟩ ?_ ?_)
    · intro j d e' hj ⟨z, he⟩
      subst he
      obtain ⟨hj', rfl⟩ : j < n ∧ d = .int j := by
        obtain ⟨w1, w2⟩ := List.getElem?_eq_some_iff.mp hj
        simp [rangeD] at w1 w2
        exact ⟨w1, w2.symm⟩
      refine ⟨_, by simp; rfl, ?_⟩
      cases hi : inI L j with
      | true =>
        have hi' : ((j : Int) ∈ L) := by simpa [inI] using hi
        refine wp_i (by simp [gIn_ints, hi', pow5 j (by omega)]; exact ⟨rfl, rfl⟩) ?_
        exact ⟨some (.int j), by rw [bitsK_s, hi]; rfl⟩
      | false =>
        have hi' : ¬ ((j : Int) ∈ L) := by simpa [inI] using hi
        refine wp_i (by simp [gIn_ints, hi']; exact ⟨rfl, rfl⟩) ?_
        exact ⟨some (.int j), by rw [bitsK_s, hi]; rfl⟩
    · intro e' ⟨z, he⟩
      subst he
      refine ⟨rfl, ?_⟩
      have hK : bitsK (inI L) (rangeD 0 n).length = bitsI L := by
        rw [show (rangeD 0 n).length = n by simp [rangeD]]
        exact bitsK_5 (by omega) (fun a ha => by
          unfold inI
          refine decide_eq_false fun hm => ?_
          have := (h2 _ hm).2
          omega)
      rw [hK]
      have hm2 := members_ok (n := n) (by omega) (bitsI L)
      rw [memI_bitsI (by omega) h2] at hm2
      refine wp_i (by simp [bits_ok, gEq_ints, hm2, bSetI, intsD_map, show L.length ≤ 50 by omega]; exact ⟨rfl, rfl⟩) ?_
      exact ⟨_, _, rfl, rfl, rfl⟩

end G
end
theorem PySem.Challenge.cw_spandrel_k01_sets_of_letters_holds : PySem.Challenge.rw_spandrel_k01_sets_of_letters.Holds := by
  exact G.law_end G.law_true
