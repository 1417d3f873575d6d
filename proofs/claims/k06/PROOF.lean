import PyProof.Rows.All
import PySem.Challenge.RW_spandrel_k06_machines_that_are_alike
import PySem.Str
import Wide.All
import OpenK.AllK
import Wide.FinOn
import HandS.ForMost
import HandS.Exc
import HandS.TryOnly
import HandS.ExcOwn
import HandS.WordsExc
import HandS.Defaults
import HandS.HeadEnd
import HandS.ExcCtx
import HandS.HeadHook1
import HandS.Deep
import HandS.TupLe
import HandS.TupMul
import HandS.TupAny
import HandS.Conv
import HandS.Flow
import HandS.Wide
import HandS.WideMore
import KE.KeyNested
import HandS.IsInst
import HandS.SetFor
import HandS.TupSets
import HandS.Strs
import HandS.SortInts
import HandS.SortRule
import HandS.Head0
import HandS.Head1
import HandS.Head2
import HandS.HeadHook2
import HandS.HotCalls
import HandS.ExcIs
import PyProof.ExcBaseAll.ValueError
import KE.KExcStr
import HandS.DictComp
import HandS.SetBool
import KE.GoesMore
import KE.GoesEnum
import HandS.Iter
import KE.KDictKeyed
import KE.KDictDisplayH
import HandS.Style
import PyProof.ReprBulk
import PyProof.ReprRoads
import PyProof.CallFns
import KE.SortData
import HandS.More
import HandS.TupLen
set_option Elab.async false
set_option linter.all false
section
/-! Cr: what a def computes, as plain functions over trees of data (D): lists and dicts as values. -/
namespace Cr
open PySem (Str)
/-- data: what a Python value is, without addresses -/
inductive D where
  | non | bl (b : Bool) | int (i : Int) | str (s : Str) | tup (xs : List D) | lst (xs : List D) | dct (kvs : List (D × D)) | dht (kvs : List (D × D)) | own (xs : List D) | ins (c : Nat) (xs : List D)
  deriving Inhabited
abbrev Sl := List (Option D)
/-- an outcome: a value and the slots, an own exception (by its number), or what is not covered -/
inductive Out (α : Type) where
  | ok (a : α) (e : Sl) | exn (c : Nat) (e : Sl) | bad
abbrev M (α : Type) := Sl → Out α
inductive Fl where
  | nx | bk | ct | rt (d : D)
abbrev S := M Fl
/-- a def's outcome: the answer and what its parameters hold behind it -/
inductive FOut where
  | ok (d : D) (ds : List D) | exn (c : Nat) | bad
abbrev Fn := List D → FOut

def pu {α : Type} (a : α) : M α := fun e => .ok a e
def bd {α β : Type} (m : M α) (f : α → M β) : M β := fun e => match m e with
  | .ok a e1 => f a e1
  | .exn c e1 => .exn c e1
  | .bad => .bad
def opt {α : Type} (o : Option α) : M α := fun e => match o with
  | some a => .ok a e
  | none => .bad
def guardM (b : Bool) : M Unit := fun e => if b = true then .ok () e else .bad
def raise {α : Type} (c : Nat) : M α := fun e => .exn c e
def badM {α : Type} : M α := fun _ => .bad
/-- a slot -/
def rd (i : Nat) : M D := fun e => match e[i]? with
  | some (some d) => .ok d e
  | _ => .bad
def wr (i : Nat) (d : D) : M Unit := fun e => if i < e.length then .ok () (e.set i (some d)) else .bad
def clr (i : Nat) : M Unit := fun e => .ok () (e.set i none)
/-- an operand: an expression, or a slot that owns its list (read late) -/
inductive Opd where
  | d (m : M D) | o (i : Nat)
def cst (d : D) : M D := pu d
def bin (g : D → D → Option D) : Opd → Opd → M D
  | .d a, .d b => bd a fun x => bd b fun y => opt (g x y)
  | .o i, .d b => bd (rd i) fun _ => bd b fun y => bd (rd i) fun x => opt (g x y)
  | .d a, .o j => bd a fun x => bd (rd j) fun y => opt (g x y)
  | .o i, .o j => bd (rd i) fun x => bd (rd j) fun y => opt (g x y)
def un (g : D → Option D) : Opd → M D
  | .d a => bd a fun x => opt (g x)
  | .o i => bd (rd i) fun x => opt (g x)
def toB : D → M Bool
  | .bl b => pu b
  | _ => badM
/-- truth -/
def truth : D → Option Bool
  | .non => some false
  | .bl b => some b
  | .int i => some (i != 0)
  | .str s => if s.length ≤ 1000000 then some (s.length != 0) else none
  | .tup xs => some (!xs.isEmpty)
  | .lst xs => some (!xs.isEmpty)
  | .dct xs => some (!xs.isEmpty)
  | .dht _ => none
  | .own _ => none
  | .ins _ _ => none
def tstB (m : M D) : M Bool := bd m toB
def tru : Opd → M Bool
  | .d a => bd a fun x => opt (truth x)
  | .o i => bd (rd i) fun x => opt (truth x)
def andT (a b : M Bool) : M Bool := bd a fun x => if x = true then b else pu false
def orT (a b : M Bool) : M Bool := bd a fun x => if x = true then pu true else b
def notT (a : M Bool) : M Bool := bd a fun x => pu (!x)
def valB (a : M Bool) : M D := bd a fun x => pu (.bl x)
def andV (a b : M D) : M D := bd a fun x => bd (toB x) fun c => if c = true then b else pu (.bl false)
def orV (a b : M D) : M D := bd a fun x => bd (toB x) fun c => if c = true then pu (.bl true) else b
def notV (a : M D) : M D := bd a fun x => bd (toB x) fun c => pu (.bl (!c))
def ifE (t : M Bool) (a b : M D) : M D := bd t fun x => if x = true then a else b
/-- a < b < c -/
def chain (g g' : D → D → Option D) (a b c : M D) : M D := bd a fun x => bd b fun y => bd (opt (g x y)) fun r => bd (toB r) fun k => if k = true then bd c fun z => opt (g' y z) else pu (.bl false)
/-- a row of expressions -/
def seqE : List (M D) → M (List D)
  | [] => pu []
  | m :: ms => bd m fun x => bd (seqE ms) fun xs => pu (x :: xs)
def tupE (ms : List (M D)) : M D := bd (seqE ms) fun xs => pu (.tup xs)
def lstE (ms : List (M D)) : M D := bd (seqE ms) fun xs => pu (.lst xs)
/-- a row of operands: the slots that own are read behind all the others -/
def ph1 : List Opd → M (List D)
  | [] => pu []
  | .d m :: r => bd m fun x => bd (ph1 r) fun xs => pu (x :: xs)
  | .o i :: r => bd (rd i) fun _ => ph1 r
def ph2 : List Opd → List D → M (List D)
  | [], _ => pu []
  | .d _ :: r, x :: xs => bd (ph2 r xs) fun ys => pu (x :: ys)
  | .d _ :: _, [] => badM
  | .o i :: r, xs => bd (rd i) fun y => bd (ph2 r xs) fun ys => pu (y :: ys)
def opds (as : List Opd) : M (List D) := bd (ph1 as) fun xs => ph2 as xs
/-- a call of a built-in by values -/
def callB (g : List D → Option D) (as : List Opd) : M D := bd (opds as) fun xs => opt (g xs)
/-- a call of a def: what its own arguments hold behind it goes back into their slots -/
def back : List Opd → List D → M Unit
  | [], _ => pu ()
  | .d _ :: r, _ :: xs => back r xs
  | .d _ :: _, [] => badM
  | .o i :: r, x :: xs => bd (wr i x) fun _ => back r xs
  | .o _ :: _, [] => badM
def slots : List Opd → List Nat
  | [] => []
  | .d _ :: as => slots as
  | .o i :: as => i :: slots as
def callF (f : Fn) (as : List Opd) : M D := bd (opds as) fun xs => fun e => match f xs with
  | .ok d ds => bd (back as ds) (fun _ => pu d) e
  | .exn c => if slots as = [] then .exn c e else .bad
  | .bad => .bad
/-! ### statements -/
def nx : S := pu .nx
def seqS (a b : S) : S := bd a fun f => match f with
  | .nx => b
  | f => pu f
def blk : List S → S
  | [] => nx
  | [a] => a
  | a :: r => seqS a (blk r)
def ifS (t : M Bool) (a b : S) : S := bd t fun x => if x = true then a else b
def exprS (m : M D) : S := bd m fun _ => nx
def retS (m : M D) : S := bd m fun d => pu (.rt d)
def retO (i : Nat) : S := bd (rd i) fun d => bd (clr i) fun _ => pu (.rt d)
abbrev Tg := D → Sl → Option Sl
def tgN (i : Nat) : Tg := fun d e => if i < e.length then some (e.set i (some d)) else none
def tgs : List Tg → List D → Sl → Option Sl
  | [], [], e => some e
  | t :: ts, d :: ds, e => (t d e).bind (tgs ts ds)
  | _, _, _ => none
def tgT (ts : List Tg) : Tg := fun d e => match d with
  | .tup ds => tgs ts ds e
  | _ => none
def stT {α : Type} (o : Sl → Option Sl) (a : α) : M α := fun e => match o e with
  | some e' => .ok a e'
  | none => .bad
def asg (m : M D) (t : Tg) : S := bd m fun d => stT (t d) .nx
def loop (t : Tg) (b : S) : List D → S
  | [] => nx
  | d :: ds => bd (stT (t d) ()) fun _ => bd b fun f => match f with
    | .nx => loop t b ds
    | .ct => loop t b ds
    | .bk => nx
    | .rt r => pu (.rt r)
def forS (it : M (List D)) (t : Tg) (b : S) : S := bd it fun ds => loop t b ds
def whileN : Nat → M Bool → S → S
  | 0, _, _ => badM
  | n + 1, t, b => bd t fun x => if x = true then (bd b fun f => match f with
    | .nx => whileN n t b
    | .ct => whileN n t b
    | .bk => nx
    | .rt r => pu (.rt r)) else nx
/-! ### comprehensions -/
def wipeE (e : Sl) : List Nat → Sl
  | [] => e
  | v :: vs => (wipeE e vs).set v none
def restE (e0 e : Sl) : List Nat → Sl
  | [] => e
  | v :: vs => (restE e0 e vs).set v (e0[v]?.getD none)
def compL (vs : List Nat) (t : Tg) (c : M Bool) (x : M D) : List D → List D → M (List D)
  | [], acc => pu acc
  | d :: ds, acc => bd (fun e => .ok () (wipeE e vs)) fun _ => bd (stT (t d) ()) fun _ => bd c fun b => if b = true then bd x fun y => compL vs t c x ds (acc ++ [y]) else compL vs t c x ds acc
def lcE (vs : List Nat) (it : M (List D)) (t : Tg) (c : M Bool) (x : M D) : M D := bd it fun ds => fun e => match compL vs t c x ds [] e with
  | .ok ys e1 => if ds.length ≤ 1000000 then .ok (.lst ys) (restE e e1 vs) else .bad
  | .exn _ _ => .bad
  | .bad => .bad
/-! ### a def -/
/-- what the parameters hold behind it: those that own, as their slots; the others as they came -/
def finM : List Bool → List D → Sl → Option (List D)
  | o :: os, d :: ds, s :: e => if o = true then (match s with
      | some x => (finM os ds e).map (x :: ·)
      | none => none) else (finM os ds e).map (d :: ·)
  | [], [], _ => some []
  | _, _, _ => none
def fnOf (own : List Bool) (fall : Bool) (slots : Nat) (body : S) : Fn := fun ds => match body (ds.map some ++ List.replicate (slots - ds.length) none) with
  | .ok .nx e => (match finM own ds e with | some r => if fall = true then .ok .non r else .bad | none => .bad)
  | .ok (.rt d) e => (match finM own ds e with | some r => .ok d r | none => .bad)
  | .ok _ _ => .bad
  | .exn c _ => .exn c
  | .bad => .bad
end Cr
namespace Cr
/-- what has no address in it -/
def scal : D → Bool
  | .non | .bl _ | .int _ | .str _ => true
  | _ => false
/-- a call that reads what slots own, and answers by a scalar -/
def callR (f : Fn) (as : List Opd) : M D := bd (opds as) fun xs => fun e => match f xs with
  | .ok d _ => if scal d = true then .ok d e else .bad
  | .exn c => .exn c e
  | .bad => .bad
/-- a def with no parameters -/
def sl (as : List Opd) (k : Nat) : Option Nat := match as[k]? with
  | some (.o i) => some i
  | _ => none
end Cr

namespace Cr
/-- xs.append(e), xs a slot's own list -/
def LIM : Nat := 1000000
def appS (i : Nat) (m : M D) : S := bd (rd i) fun _ => bd m fun y => bd (rd i) fun d => match d with
  | .lst xs => if xs.length < LIM then bd (wr i (.lst (xs ++ [y]))) fun _ => nx else badM
  | _ => badM
/-- a place of a list, counted from either end -/
def ixN (n : Nat) (i : Int) : Option Nat := if 0 ≤ i then (if i < n then some i.toNat else none) else if -(n : Int) ≤ i then some (i + n).toNat else none
/-- xs[k] = e: e first -/
def setS (i : Nat) (k : M D) (m : M D) : S := bd m fun y => bd (rd i) fun _ => bd k fun kd => bd (rd i) fun d => match d, kd with
  | .lst xs, .int j => (match Cr.ixN xs.length j with
    | some n => bd (wr i (.lst (xs.set n y))) fun _ => nx
    | none => badM)
  | _, _ => badM
end Cr

namespace Cr
def items : D → Option (List D)
  | .lst xs => some xs
  | .tup xs => some xs
  | _ => none
def itE (m : M D) : M (List D) := bd m fun d => opt (items d)
def rangeD (lo : Int) (n : Nat) : List D := (List.range n).map fun (i : Nat) => D.int (lo + (i : Int))
def rng1 : List D → Option (List D)
  | [.int n] => if -1000000 ≤ n ∧ n ≤ 1000000 then some (rangeD 0 n.toNat) else none
  | _ => none
def rng2 : List D → Option (List D)
  | [.int lo, .int hi] => if -1000000 ≤ lo ∧ lo ≤ 1000000 ∧ -1000000 ≤ hi ∧ hi ≤ 1000000 then some (rangeD lo (hi - lo).toNat) else none
  | _ => none
def itR (g : List D → Option (List D)) (as : List Opd) : M (List D) := bd (opds as) fun ds => opt (g ds)
end Cr
namespace Cr
/-! ### operators on data -/
mutual
/-- data of bounded depth without dicts and sets, no text too long -/
def sh : Nat → D → Bool
  | _, .non => true
  | _, .bl _ => true
  | _, .int _ => true
  | _, .str s => s.cps.all (· < 0x110000)
  | n + 1, .tup xs => shL n xs
  | n + 1, .lst xs => shL n xs
  | _, _ => false
def shL : Nat → List D → Bool
  | _, [] => true
  | n, x :: xs => sh n x && shL n xs
end
mutual
/-- == -/
def eqv : D → D → Bool
  | .non, .non => true
  | .bl a, .bl b => a == b
  | .bl a, .int j => (if a then 1 else 0) == j
  | .int i, .bl b => i == (if b then 1 else 0)
  | .int i, .int j => i == j
  | .str x, .str y => x == y
  | .lst xs, .lst ys => eqvL xs ys
  | .tup xs, .tup ys => eqvL xs ys
  | _, _ => false
def eqvL : List D → List D → Bool
  | [], [] => true
  | x :: xs, y :: ys => eqv x y && eqvL xs ys
  | _, _ => false
end
def DEP : Nat := 60
def gEq (x y : D) : Option D := if sh DEP x = true ∧ sh DEP y = true then some (.bl (eqv x y)) else none
def gNe (x y : D) : Option D := if sh DEP x = true ∧ sh DEP y = true then some (.bl (!eqv x y)) else none
def gIn (x c : D) : Option D := match c with
  | .lst ys => if sh DEP x = true ∧ shL DEP ys = true then some (.bl (ys.any fun y => eqv y x)) else none
  | .tup ys => if sh DEP x = true ∧ shL DEP ys = true then some (.bl (ys.any fun y => eqv y x)) else none
  | _ => none
def gNi (x c : D) : Option D := match gIn x c with
  | some (.bl b) => some (.bl (!b))
  | _ => none
def gIsN (x y : D) : Option D := match x, y with
  | .non, .non => some (.bl true)
  | _, .non => some (.bl false)
  | _, _ => none
def gNoN (x y : D) : Option D := match x, y with
  | .non, .non => some (.bl false)
  | _, .non => some (.bl true)
  | _, _ => none
def iB (p : Int → Int → Bool) (x y : D) : Option D := match x, y with
  | .int i, .int j => some (.bl (p i j))
  | _, _ => none
def gLt := iB fun i j => decide (i < j)
def gLe := iB fun i j => decide (i ≤ j)
def gGt := iB fun i j => decide (j < i)
def gGe := iB fun i j => decide (j ≤ i)
def gAdd (x y : D) : Option D := match x, y with
  | .int i, .int j => some (.int (i + j))
  | .str a, .str b => if a.length + b.length ≤ 1000000 then some (.str (a ++ b)) else none
  | .tup a, .tup b => if a.length + b.length ≤ 1000000 then some (.tup (a ++ b)) else none
  | _, _ => none
def gAddL (x y : D) : Option D := match x, y with
  | .lst a, .lst b => if a.length + b.length ≤ 1000000 then some (.lst (a ++ b)) else none
  | _, _ => none
def gSub (x y : D) : Option D := match x, y with
  | .int i, .int j => some (.int (i - j))
  | _, _ => none
def gMul (x y : D) : Option D := match x, y with
  | .int i, .int j => if (-(2 ^ 64) < i ∧ i < 2 ^ 64) ∨ (-(2 ^ 64) < j ∧ j < 2 ^ 64) then some (.int (i * j)) else none
  | _, _ => none
def gRep (x y : D) : Option D := match x, y with
  | .tup xs, .int k => if xs ≠ [] ∧ 0 ≤ k ∧ k ≤ 1000 ∧ xs.length ≤ 1000 then some (.tup (List.replicate k.toNat xs).flatten) else none
  | _, _ => none
def gFdv (x y : D) : Option D := match x, y with
  | .int i, .int j => if 0 < j ∧ j < 1073741824 then some (.int (i / j)) else none
  | _, _ => none
def gMod (x y : D) : Option D := match x, y with
  | .int i, .int j => if 0 < j then some (.int (i % j)) else none
  | _, _ => none
def gPow (x y : D) : Option D := match x, y with
  | .int i, .int j => if 0 ≤ j ∧ j ≤ 1000 ∧ i.natAbs < 2 ^ 64 then some (.int (i ^ j.toNat)) else none
  | _, _ => none
def gNeg : D → Option D
  | .int i => some (.int (-i))
  | _ => none
def atD {α : Type} (xs : List α) (i : Int) : Option α := (Cr.ixN xs.length i).bind fun j => xs[j]?
def gIx (x i : D) : Option D := match x, i with
  | .lst xs, .int j => atD xs j
  | .tup xs, .int j => atD xs j
  | .str s, .int j => if s.length ≤ 1000000 then (atD s.cps.toList j).map fun c => .str ⟨#[c]⟩ else none
  | _, _ => none
/-- a slice's bound -/
def sIx (n d : Nat) : Option Int → Nat
  | none => d
  | some i => if i < 0 then (i + n).toNat else min i.toNat n
def cutD {α : Type} (xs : List α) (lo hi : Option Int) : List α := (xs.drop (Cr.sIx xs.length 0 lo)).take (Cr.sIx xs.length xs.length hi - Cr.sIx xs.length 0 lo)
/-! ### built-ins -/
def bLen : List D → Option D
  | [.lst xs] => some (.int xs.length)
  | [.tup xs] => some (.int xs.length)
  | [.str s] => if s.length ≤ 1000000 then some (.int s.length) else none
  | _ => none
def bAbs : List D → Option D
  | [.int i] => some (.int (if i < 0 then -i else i))
  | _ => none
def bInt : List D → Option D
  | [.int i] => some (.int i)
  | [.bl k] => some (.int (if k then 1 else 0))
  | _ => none
def bMax2 : List D → Option D
  | [.int i, .int j] => some (.int (if j > i then j else i))
  | _ => none
def bMin2 : List D → Option D
  | [.int i, .int j] => some (.int (if j < i then j else i))
  | _ => none
def intsD : List D → Option (List Int)
  | [] => some []
  | .int i :: r => (intsD r).map (i :: ·)
  | _ => none
def bSum : List D → Option D
  | [.lst xs] => (intsD xs).map fun ns => .int ns.sum
  | _ => none
def bList : List D → Option D
  | [.lst xs] => some (.lst xs)
  | [.tup xs] => some (.lst xs)
  | _ => none
def bTuple : List D → Option D
  | [.lst xs] => some (.tup xs)
  | [.tup xs] => some (.tup xs)
  | _ => none
inductive Ty where
  | int | bool | tuple | list | str
def isi : Ty → D → Option Bool
  | .int, .non => some false | .int, .bl _ => some true | .int, .int _ => some true | .int, .str _ => some false | .int, .tup _ => some false | .int, .lst _ => some false
  | .bool, .non => some false | .bool, .bl _ => some true | .bool, .int _ => some false | .bool, .str _ => some false | .bool, .tup _ => some false | .bool, .lst _ => some false
  | .tuple, .non => some false | .tuple, .bl _ => some false | .tuple, .int _ => some false | .tuple, .str _ => some false | .tuple, .tup _ => some true | .tuple, .lst _ => some false
  | .list, .non => some false | .list, .bl _ => some false | .list, .int _ => some false | .list, .str _ => some false | .list, .tup _ => some false | .list, .lst _ => some true
  | .str, .non => some false | .str, .bl _ => some false | .str, .int _ => some false | .str, .str _ => some true | .str, .tup _ => some false | .str, .lst _ => some false
  | _, _ => none
def gIsi (T : Ty) (d : D) : Option D := (isi T d).map .bl
end Cr
namespace Cr
mutual
/-- no list, dict or set within -/
def noL : D → Bool
  | .non | .bl _ | .int _ | .str _ => true
  | .tup xs => noLL xs
  | _ => false
def noLL : List D → Bool
  | [] => true
  | x :: xs => noL x && noLL xs
end
/-- the list that slot i owns, walked as it stands at each turn -/
def compO (i : Nat) (vs : List Nat) (t : Tg) (c : M Bool) (x : M D) : Nat → Nat → List D → M (List D)
  | 0, _, _ => badM
  | n + 1, k, acc => bd (rd i) fun l => match l with
    | .lst xs => (match xs[k]? with
      | none => pu acc
      | some d => bd (fun e => .ok () (wipeE e vs)) fun _ => bd (stT (t d) ()) fun _ => bd c fun b => if b = true then bd x fun y => compO i vs t c x n (k + 1) (acc ++ [y]) else compO i vs t c x n (k + 1) acc)
    | _ => badM
def lcO (i : Nat) (vs : List Nat) (t : Tg) (c : M Bool) (x : M D) : M D := fun e => match compO i vs t c x 1000000 0 [] e with
  | .ok ys e1 => .ok (.lst ys) (restE e e1 vs)
  | .exn _ _ => .bad
  | .bad => .bad
def loopO (i : Nat) (t : Tg) (b : S) : Nat → Nat → S
  | 0, _ => badM
  | n + 1, k => bd (rd i) fun l => match l with
    | .lst xs => (match xs[k]? with
      | none => nx
      | some d => bd (stT (t d) ()) fun _ => bd b fun f => match f with
        | .nx => loopO i t b n (k + 1)
        | .ct => loopO i t b n (k + 1)
        | .bk => nx
        | .rt r => pu (.rt r))
    | _ => badM
end Cr
namespace Cr
/-- insertion into a rising list -/
def ins (x : Int) : List Int → List Int
  | [] => [x]
  | y :: r => if x ≤ y then x :: y :: r else y :: ins x r
def isort : List Int → List Int
  | [] => []
  | x :: r => ins x (isort r)
/-- .. without equal ones -/
def insU (x : Int) : List Int → List Int
  | [] => [x]
  | y :: r => if x < y then x :: y :: r else if x = y then y :: r else y :: insU x r
def usort : List Int → List Int
  | [] => []
  | x :: r => insU x (usort r)
def bSortI : List D → Option D
  | [.lst xs] => (intsD xs).map fun ns => .lst ((isort ns).map .int)
  | [.tup xs] => (intsD xs).map fun ns => .lst ((isort ns).map .int)
  | _ => none
/-- sorted(set(xs)) -/
def bSetI : List D → Option D
  | [.lst xs] => match intsD xs with
    | some ns => if ns.length ≤ 50 then some (.lst ((usort ns).map .int)) else none
    | none => none
  | _ => none
theorem ins_perm (x : Int) : ∀ l : List Int, (ins x l).Perm (x :: l)
  | [] => .refl _
  | y :: r => by
    unfold ins
    split
    · exact .refl _
    · exact ((ins_perm x r).cons y).trans (.swap x y r)
theorem isort_perm : ∀ l : List Int, (isort l).Perm l
  | [] => .refl _
  | x :: r => (ins_perm x (isort r)).trans ((isort_perm r).cons x)
theorem ins_pw (x : Int) : ∀ {l : List Int}, l.Pairwise (· ≤ ·) → (ins x l).Pairwise (· ≤ ·)
  | [], _ => List.pairwise_singleton _ _
  | y :: r, h => by
    unfold ins
    split
    · rename_i q
      exact List.pairwise_cons.mpr ⟨fun z hz => by
        rcases List.mem_cons.mp hz with e | e
        · omega
        · have := (List.pairwise_cons.mp h).1 z e; omega, h⟩
    · rename_i q
      have h' := List.pairwise_cons.mp h
      refine List.pairwise_cons.mpr ⟨fun z hz => ?_, ins_pw x h'.2⟩
      rcases List.mem_cons.mp ((ins_perm x r).mem_iff.mp hz) with e | e
      · omega
      · exact h'.1 z e
theorem isort_pw : ∀ l : List Int, (isort l).Pairwise (· ≤ ·)
  | [] => List.Pairwise.nil
  | x :: r => ins_pw x (isort_pw r)
theorem insU_mem (x : Int) : ∀ (l : List Int) (z : Int), z ∈ insU x l ↔ z = x ∨ z ∈ l
  | [], z => by simp [insU]
  | y :: r, z => by
    unfold insU
    split
    · simp
    · split
      · rename_i e; subst e; simp
      · simp only [List.mem_cons, insU_mem x r z]
        constructor
        · rintro (h | h | h) <;> simp [h]
        · rintro (h | h | h) <;> simp [h]
theorem insU_pw (x : Int) : ∀ {l : List Int}, l.Pairwise (· < ·) → (insU x l).Pairwise (· < ·)
  | [], _ => List.pairwise_singleton _ _
  | y :: r, h => by
    have h' := List.pairwise_cons.mp h
    unfold insU
    split
    · rename_i q
      exact List.pairwise_cons.mpr ⟨fun z hz => by
        rcases List.mem_cons.mp hz with e | e
        · omega
        · have := h'.1 z e; omega, h⟩
    · split
      · exact h
      · refine List.pairwise_cons.mpr ⟨fun z hz => ?_, insU_pw x h'.2⟩
        rcases (insU_mem x r z).mp hz with e | e
        · omega
        · exact h'.1 z e
theorem usort_mem : ∀ (l : List Int) (z : Int), z ∈ usort l ↔ z ∈ l
  | [], z => by simp [usort]
  | x :: r, z => by simp only [usort, insU_mem, usort_mem r, List.mem_cons]
theorem usort_pw : ∀ l : List Int, (usort l).Pairwise (· < ·)
  | [] => List.Pairwise.nil
  | x :: r => insU_pw x (usort_pw r)
theorem pw_le_eq : ∀ {a b : List Int}, a.Perm b → a.Pairwise (· ≤ ·) → b.Pairwise (· ≤ ·) → a = b := fun h ha hb =>
  List.Perm.eq_of_pairwise (le := fun x y => x ≤ y) (fun _ _ _ _ h1 h2 => Int.le_antisymm h1 h2) ha hb h
theorem pw_lt_eq {a b : List Int} (h : ∀ z, z ∈ a ↔ z ∈ b) (ha : a.Pairwise (· < ·)) (hb : b.Pairwise (· < ·)) : a = b := by
  have nd : ∀ {l : List Int}, l.Pairwise (· < ·) → l.Nodup := fun h => h.imp fun h => by omega
  exact pw_le_eq ((List.perm_ext_iff_of_nodup (nd ha) (nd hb)).mpr h) (ha.imp fun h => by omega) (hb.imp fun h => by omega)
end Cr
namespace Cr
mutual
/-- whole numbers and tuples of such: what keys are made of -/
def ky : Nat → D → Bool
  | _, .int _ => true
  | n + 1, .tup xs => kyL n xs
  | _, _ => false
def kyL : Nat → List D → Bool
  | _, [] => true
  | n, x :: xs => ky n x && kyL n xs
end
/-- a tuple that is a key -/
def kyT : D → Bool
  | .tup xs => kyL 7 xs
  | _ => false
/-- no list -/
def nolst : D → Bool
  | .lst _ => false
  | .own _ => false
  | .ins _ _ => false
  | .dct _ => false
  | .dht _ => false
  | _ => true
end Cr

end
section
/-! Cs: more of what defs compute: try, slices, tuple(range(..)). -/
namespace Cr
open PySem (Str)
/-- the names that the law's teller gives the classes -/
def nmC : List Str := ["machine", "demand", "letters", "word", "set", "state", "text", "much"]
/-- the body, and what is answered for a class; i the exception's slot -/
def tryC (i : Nat) (b : S) (g : Nat → D) : S := fun e => match b e with
  | .ok f e1 => .ok f e1
  | .exn c e1 => if c < 8 ∧ i < e1.length ∧ e1.length = e.length then .ok (.rt (g c)) e1 else .bad
  | .bad => .bad
/-- a slice's bound that is written, or none -/
def sl1 : Option (M D) → M (Option Int)
  | none => pu none
  | some m => bd m fun d => match d with
    | .int i => pu (some i)
    | _ => badM
def gSl (x : D) (lo hi : Option Int) : Option D := match x with
  | .tup xs => some (.tup (cutD xs lo hi))
  | .lst xs => some (.lst (cutD xs lo hi))
  | _ => none
def slE : Opd → Option (M D) → Option (M D) → M D
  | .d m, lo, hi => bd m fun x => bd (sl1 lo) fun l => bd (sl1 hi) fun h => opt (gSl x l h)
  | .o i, lo, hi => bd (rd i) fun _ => bd (sl1 lo) fun l => bd (sl1 hi) fun h => bd (rd i) fun x => opt (gSl x l h)
/-- tuple(range(n)), tuple(range(a, b)) -/
def bTupR1 : List D → Option D
  | [.int n] => if -1000000 ≤ n ∧ n ≤ 1000000 then some (.tup (rangeD 0 n.toNat)) else none
  | _ => none
/-- a ≤ b of tuples of ints -/
def lexLe : List Int → List Int → Bool
  | [], _ => true
  | _ :: _, [] => false
  | x :: xs, y :: ys => if x = y then lexLe xs ys else decide (x < y)
def gLeT (x y : D) : Option D := match x, y with
  | .tup a, .tup b => (match intsD a, intsD b with
    | some ns, some ms => some (.bl (lexLe ns ms))
    | _, _ => none)
  | _, _ => none
/-! ### pairs of ints, sorted -/
def prD (p : Int × Int) : D := .tup [.int p.1, .int p.2]
def prsD : List D → Option (List (Int × Int))
  | [] => some []
  | .tup [.int i, .int j] :: r => (prsD r).map ((i, j) :: ·)
  | _ => none
/-- p before q -/
def prLt (p q : Int × Int) : Bool := if p.1 = q.1 then decide (p.2 < q.2) else decide (p.1 < q.1)
def pins (p : Int × Int) : List (Int × Int) → List (Int × Int)
  | [] => [p]
  | q :: r => if prLt q p = true then q :: pins p r else p :: q :: r
def psort : List (Int × Int) → List (Int × Int)
  | [] => []
  | p :: r => pins p (psort r)
def bSortP : List D → Option D
  | [.lst xs] => (prsD xs).map fun ps => .lst ((psort ps).map prD)
  | _ => none
theorem prLt_iff {p q : Int × Int} : prLt p q = true ↔ p.1 < q.1 ∨ (p.1 = q.1 ∧ p.2 < q.2) := by
  unfold prLt
  split <;> rename_i h
  · rw [decide_eq_true_eq]; omega
  · rw [decide_eq_true_eq]; omega
theorem pins_perm (p : Int × Int) : ∀ l, (pins p l).Perm (p :: l)
  | [] => .refl _
  | q :: r => by
    unfold pins
    split
    · exact ((pins_perm p r).cons q).trans (.swap p q r)
    · exact .refl _
theorem psort_perm : ∀ l, (psort l).Perm l
  | [] => .refl _
  | p :: r => (pins_perm p (psort r)).trans ((psort_perm r).cons p)
/-- not behind -/
def PrLe (p q : Int × Int) : Prop := prLt q p = false
theorem prLt_false {p q : Int × Int} : prLt q p = false ↔ ¬ (q.1 < p.1 ∨ (q.1 = p.1 ∧ q.2 < p.2)) := by
  rw [← prLt_iff]; simp
theorem pins_pw (p : Int × Int) : ∀ {l : List (Int × Int)}, l.Pairwise PrLe → (pins p l).Pairwise PrLe
  | [], _ => List.pairwise_singleton _ _
  | q :: r, h => by
    have h' := List.pairwise_cons.mp h
    unfold pins
    split
    · rename_i e
      refine List.pairwise_cons.mpr ⟨fun z hz => ?_, pins_pw p h'.2⟩
      rcases List.mem_cons.mp ((pins_perm p r).mem_iff.mp hz) with e1 | e1
      · rw [e1]; have := prLt_iff.mp e; exact prLt_false.mpr (by omega)
      · exact h'.1 z e1
    · rename_i e
      have e : prLt q p = false := by simpa using e
      refine List.pairwise_cons.mpr ⟨fun z hz => ?_, h⟩
      rcases List.mem_cons.mp hz with e1 | e1
      · rw [e1]; exact e
      · have a := prLt_false.mp e
        have b := prLt_false.mp (h'.1 z e1)
        exact prLt_false.mpr (by omega)
theorem psort_pw : ∀ l, (psort l).Pairwise PrLe
  | [] => List.Pairwise.nil
  | p :: r => pins_pw p (psort_pw r)
theorem prLe_eq {a b : List (Int × Int)} (h : a.Perm b) (ha : a.Pairwise PrLe) (hb : b.Pairwise PrLe) : a = b :=
  List.Perm.eq_of_pairwise (le := PrLe) (fun p q _ _ h1 h2 => by
    have a := prLt_false.mp h1
    have b := prLt_false.mp h2
    exact Prod.ext (by omega) (by omega)) ha hb h
theorem prsD_get : ∀ {xs : List D} {ps : List (Int × Int)}, prsD xs = some ps → xs = ps.map prD
  | [], ps, h => by simp [prsD] at h; rw [h]; rfl
  | d :: xs, ps, h => by
    unfold prsD at h
    split at h
    · rename_i e; cases e
    · rename_i i j r e
      cases e
      cases hr : prsD xs with
      | none => rw [hr] at h; cases h
      | some qs =>
        rw [hr] at h
        cases h
        rw [List.map_cons, ← prsD_get hr]
        rfl
    · cases h
end Cr

end
section
/-! Ct: still more of what defs compute: a list given up, comprehensions that gather, dicts with numbers as keys. -/
namespace Cr
open PySem (Str)
/-- a slot gives up its list -/
def mv (i : Nat) : M D := bd (rd i) fun d => bd (clr i) fun _ => pu d
/-- a comprehension that gathers by em -/
def compG {α : Type} (vs : List Nat) (t : Tg) (c : M Bool) (em : α → M α) : List D → α → M α
  | [], acc => pu acc
  | d :: ds, acc => bd (fun e => .ok () (wipeE e vs)) fun _ => bd (stT (t d) ()) fun _ => bd c fun b => if b = true then bd (em acc) fun acc' => compG vs t c em ds acc' else compG vs t c em ds acc
/-- a second clause -/
def emIn {α : Type} (it : M (List D)) (vs : List Nat) (t : Tg) (c : M Bool) (em : α → M α) (acc : α) : M α := bd it fun ds => compG vs t c em ds acc
/-- {..}: out tells the accumulator's value -/
def coE {α : Type} (out : α → D) (a0 : α) (vs : List Nat) (it : M (List D)) (t : Tg) (c : M Bool) (em : α → M α) : M D := bd it fun ds => fun e => match compG vs t c em ds a0 e with
  | .ok a e1 => .ok (out a) (restE e e1 vs)
  | .exn _ _ => .bad
  | .bad => .bad
/-! ### dicts with numbers as keys -/
abbrev Ents := List (D × D)
def keyIs (n : Int) : D → Bool
  | .int m => m == n
  | _ => false
def getE (ks : Ents) (n : Int) : Option D := (ks.find? fun p => keyIs n p.1).map (·.2)
def putE (ks : Ents) (n : Int) (v : D) : Ents := if (ks.any fun p => keyIs n p.1) = true then ks.map fun p => if keyIs n p.1 = true then (p.1, v) else p else ks ++ [(.int n, v)]
/-- k: v, put in -/
def emK (kx vx : M D) (acc : Ents) : M Ents := bd kx fun k => bd vx fun v => match k with
  | .int n => if acc.length < LIM then pu (putE acc n v) else badM
  | _ => badM
/-- {k: v for .. in .. if ..} -/
def dcE (vs : List Nat) (it : M (List D)) (t : Tg) (c : M Bool) (kx vx : M D) : M D := coE D.dct [] vs it t c (emK kx vx)
/-- .. of two clauses -/
def dc2E (vs : List Nat) (it : M (List D)) (t : Tg) (c : M Bool) (vs1 : List Nat) (it1 : M (List D)) (t1 : Tg) (c1 : M Bool) (kx vx : M D) : M D := coE D.dct [] vs it t c (emIn it1 vs1 t1 c1 (emK kx vx))
/-- list(d) of a dict -/
def bKeys : List D → Option D
  | [.dct ks] => some (.lst (ks.map (·.1)))
  | _ => none
/-- k in d -/
def gDin (k d : D) : Option D := match k, d with
  | .int n, .dct ks => some (.bl (getE ks n).isSome)
  | _, _ => none
def gDni (k d : D) : Option D := match k, d with
  | .int n, .dct ks => some (.bl (!(getE ks n).isSome))
  | _, _ => none
/-- d[k] -/
def gDix (d k : D) : Option D := match d, k with
  | .dct ks, .int n => getE ks n
  | _, _ => none
/-- a thing without an address -/
def scE (m : M D) : M D := bd m fun d => if scal d = true then pu d else badM
/-- xs.append(e), where the slot may also hold a thing without an address -/
def appX (i : Nat) (m : M D) : S := bd (rd i) fun d => match d with
  | .lst _ => appS i m
  | _ => badM
/-- d[k] = e: e first -/
def putS (i : Nat) (k : M D) (m : M D) : S := bd m fun y => bd (rd i) fun _ => bd k fun kd => bd (rd i) fun d => match d, kd with
  | .dct ks, .int n => if ks.length < LIM then bd (wr i (.dct (putE ks n y))) fun _ => nx else badM
  | _, _ => badM
/-- {} -/
def newD : M D := pu (.dct [])
/-- {k: v} -/
def dispE (k v : M D) : M D := bd k fun kd => bd v fun vd => match kd with
  | .int n => pu (.dct [(.int n, vd)])
  | _ => badM
/-- x op= e -/
def augS (i : Nat) (g : D → D → Option D) (m : M D) : S := bd (rd i) fun x => bd m fun y => bd (opt (g x y)) fun z => stT (tgN i z) .nx
def gAddI (x y : D) : Option D := match x, y with
  | .int i, .int j => some (.int (i + j))
  | _, _ => none
/-- more turns than any loop here takes -/
def FUEL : Nat := 1000000
/-- a number, put to the others -/
def addI (L : List Int) (n : Int) : List Int := if n ∈ L then L else L ++ [n]
def emI (x : M D) (acc : List Int) : M (List Int) := bd x fun d => match d with
  | .int n => if acc.length < 50 then pu (addI acc n) else badM
  | _ => badM
def outS (L : List Int) : D := .lst ((usort L).map .int)
/-- sorted({x for .. in .. if ..}) of numbers -/
def ssE (vs : List Nat) (it : M (List D)) (t : Tg) (c : M Bool) (x : M D) : M D := coE outS [] vs it t c (emI x)
def ss2E (vs : List Nat) (it : M (List D)) (t : Tg) (c : M Bool) (vs1 : List Nat) (it1 : M (List D)) (t1 : Tg) (c1 : M Bool) (x : M D) : M D := coE outS [] vs it t c (emIn it1 vs1 t1 c1 (emI x))
end Cr

end
section
/-! Cu: still more of what defs compute: enumerate. -/
namespace Cr
open PySem (Str)
/-- enumerate -/
def enumD (ds : List D) : List D := ds.zipIdx.map fun p => .tup [.int (p.2 : Nat), p.1]
theorem enumD_get {ds : List D} {i : Nat} {d : D} (h : (enumD ds)[i]? = some d) : ∃ d0, ds[i]? = some d0 ∧ d = .tup [.int (i : Nat), d0] := by
  unfold enumD at h
  rw [List.getElem?_map, List.getElem?_zipIdx] at h
  cases e : ds[i]? with
  | none => rw [e] at h; cases h
  | some d0 => rw [e] at h; simp at h; exact ⟨d0, rfl, h.symm⟩
def enE (m : M D) : M (List D) := bd m fun d => opt ((items d).map enumD)
end Cr
namespace Cr
/-! ### dicts with tuples as keys -/
def getH (ks : Ents) (k : D) : Option D := (ks.find? fun p => eqv p.1 k).map (·.2)
def putH (ks : Ents) (k v : D) : Ents := if (ks.any fun p => eqv p.1 k) = true then ks.map fun p => if eqv p.1 k = true then (p.1, v) else p else ks ++ [(k, v)]
def gHin (k d : D) : Option D := match d with
  | .dht ks => if kyT k = true then some (.bl (getH ks k).isSome) else none
  | _ => none
def gHni (k d : D) : Option D := match d with
  | .dht ks => if kyT k = true then some (.bl (!(getH ks k).isSome)) else none
  | _ => none
def gHix (d k : D) : Option D := match d with
  | .dht ks => if kyT k = true then getH ks k else none
  | _ => none
/-- d[k] = e: e first -/
def putHS (i : Nat) (k : M D) (m : M D) : S := bd m fun y => bd (rd i) fun _ => bd k fun kd => bd (rd i) fun d => match d with
  | .dht ks => if kyT kd = true ∧ ks.length < LIM then bd (wr i (.dht (putH ks kd y))) fun _ => nx else badM
  | _ => badM
def newH : M D := pu (.dht [])
def dispHE (k v : M D) : M D := bd k fun kd => bd v fun vd => if kyT kd = true then pu (.dht [(kd, vd)]) else badM
def emH (kx vx : M D) (acc : Ents) : M Ents := bd kx fun k => bd vx fun v => if kyT k = true ∧ acc.length < LIM then pu (putH acc k v) else badM
def dcHE (vs : List Nat) (it : M (List D)) (t : Tg) (c : M Bool) (kx vx : M D) : M D := coE D.dht [] vs it t c (emH kx vx)
def dc2HE (vs : List Nat) (it : M (List D)) (t : Tg) (c : M Bool) (vs1 : List Nat) (it1 : M (List D)) (t1 : Tg) (c1 : M Bool) (kx vx : M D) : M D := coE D.dht [] vs it t c (emIn it1 vs1 t1 c1 (emH kx vx))
def bKeysH : List D → Option D
  | [.dht ks] => some (.lst (ks.map (·.1)))
  | _ => none
def bValsH : List D → Option D
  | [.dht ks] => some (.lst (ks.map (·.2)))
  | _ => none
end Cr
namespace Cr
/-! ### a list of own lists -/
/-- [[] for _ in ..] -/
def newLs (it : M (List D)) : M D := bd it fun ds => if ds.length ≤ 1000000 then pu (.own (ds.map fun _ => .lst [])) else badM
/-- the inner list at a place -/
def own2 (d kd : D) : Option (List D × Nat × List D) := match d, kd with
  | .own xs, .int j => (Cr.ixN xs.length j).bind fun n => match xs[n]? with
    | some (.lst ys) => some (xs, n, ys)
    | _ => none
  | _, _ => none
/-- xs[k].append(e) -/
def app2S (i : Nat) (k m : M D) : S := bd (rd i) fun d => bd (clr i) fun _ => bd k fun kd => bd (opt (own2 d kd)) fun q => bd m fun y => if q.2.2.length < LIM then bd (wr i (.own (q.1.set q.2.1 (.lst (q.2.2 ++ [y]))))) fun _ => nx else badM
/-- a list of own lists is given up: it is data from now on -/
def unown (m : M D) : M D := bd m fun d => match d with
  | .own xs => pu (.lst xs)
  | _ => badM
/-- an item at a place from 0, and a new one there -/
def ixP (d kd : D) : Option D := match d, kd with
  | .lst xs, .int j => if 0 ≤ j then xs[j.toNat]? else none
  | _, _ => none
def setP (d kd z : D) : Option D := match d, kd with
  | .lst xs, .int j => if 0 ≤ j ∧ j.toNat < xs.length then some (.lst (xs.set j.toNat z)) else none
  | _, _ => none
/-- xs[k] op= e, xs a list -/
def augIxS (i : Nat) (g : D → D → Option D) (k m : M D) : S := bd (rd i) fun _ => bd k fun kd => bd (rd i) fun d0 => bd (opt (ixP d0 kd)) fun x => bd m fun y => bd (opt (g x y)) fun z => bd (rd i) fun d => bd (opt (setP d kd z)) fun d1 => bd (wr i d1) fun _ => nx
/-- no list -/
def nlE (m : M D) : M D := bd m fun d => if nolst d = true then pu d else badM
/-- xs[::-1] -/
def gRev : D → Option D
  | .lst xs => some (.lst xs.reverse)
  | _ => none
/-- an operand's value where it stands -/
def opv : Opd → M D
  | .d m => m
  | .o i => rd i
mutual
/-- the same data -/
def dEq : D → D → Bool
  | .non, .non => true
  | .bl a, .bl b => a == b
  | .int i, .int j => i == j
  | .str x, .str y => x == y
  | .tup xs, .tup ys => dEqL xs ys
  | .lst xs, .lst ys => dEqL xs ys
  | _, _ => false
def dEqL : List D → List D → Bool
  | [], [] => true
  | x :: xs, y :: ys => dEq x y && dEqL xs ys
  | _, _ => false
end
end Cr
namespace Cr
/-! ### repr(a) == repr(b) -/
mutual
/-- whole numbers (not too great), truth values, None, in tuples and lists -/
def rp : Nat → D → Bool
  | _, .non => true
  | _, .bl _ => true
  | _, .int i => decide (i.natAbs < 10000000000)
  | n + 1, .tup xs => rpL n xs
  | n + 1, .lst xs => rpL n xs
  | _, _ => false
def rpL : Nat → List D → Bool
  | _, [] => true
  | n, x :: xs => rp n x && rpL n xs
end
mutual
def blk' : D → Nat
  | .tup xs => blkL xs
  | .lst xs => blkL xs
  | _ => 0
def blkL : List D → Nat
  | [] => 0
  | x :: xs => blk' x + 1 + blkL xs
end
def rpOk (d : D) : Bool := rp 60 d && decide (blk' d ≤ 1048576)
/-- repr(a) == repr(b) (ne: !=), where they are the same data -/
def reprC (ne : Bool) (a b : Opd) : M D := bd (opv a) fun x => bd (guardM (rpOk x)) fun _ => bd (opv b) fun y => opt (if dEq x y = true then some (.bl (!ne)) else none)
end Cr
namespace Cr
/-! ### sorted of nested tuples of whole numbers -/
mutual
/-- alike: whole numbers, tuples of such -/
def alkD : D → D → Bool
  | .int _, .int _ => true
  | .tup xs, .tup ys => alkL xs ys
  | _, _ => false
def alkL : List D → List D → Bool
  | [], _ => true
  | _ :: _, [] => true
  | x :: xs, y :: ys => alkD x y && alkL xs ys
end
mutual
/-- the less of what is alike: the first items that differ decide -/
def ltD : D → D → Bool
  | .int i, .int j => decide (i < j)
  | .tup xs, .tup ys => ltL xs ys
  | _, _ => false
def ltL : List D → List D → Bool
  | [], [] => false
  | [], _ :: _ => true
  | _ :: _, [] => false
  | x :: xs, y :: ys => if eqv x y = true then ltL xs ys else ltD x y
end
def leD (x y : D) : Bool := !ltD y x
def tupNE : D → Bool
  | .tup (_ :: _) => true
  | _ => false
/-- sorted(xs), xs a list of nested tuples -/
def bSortN : List D → Option D
  | [.lst xs] => if xs.all tupNE = true ∧ shL DEP xs = true ∧ (∀ x ∈ xs, ∀ y ∈ xs, alkD x y = true) ∧ xs.length ≤ LIM then some (.lst (xs.mergeSort leD)) else none
  | _ => none
end Cr

end
section
/-! Cv: the place of a thing in a list; slots that change their kind. -/
namespace Cr
open PySem (Str)
def gIdx (x y : D) : Option D := match x with
  | .lst ys => if sh DEP y = true ∧ shL DEP ys = true then (ys.findIdx? fun z => eqv z y).map fun j => .int (j : Nat) else none
  | _ => none
def isLst : D → Bool
  | .lst _ => true
  | _ => false
/-- xs.index(y) -/
def idxE : Opd → M D → M D
  | .d a, m => bd a fun l => if isLst l = true then bd m fun y => opt (gIdx l y) else badM
  | .o i, m => bd (rd i) fun l => if isLst l = true then bd m fun y => bd (rd i) fun l => opt (gIdx l y) else badM
def emptyAt (e : Sl) (i : Nat) : Bool := match e[i]? with
  | some none => true
  | _ => false
/-- from here on the slots vs (empty here) are of another kind; they are forgotten at the end -/
def regS (vs : List Nat) (m : S) : S := fun e => if (vs.all fun i => emptyAt e i) = true then (match m e with
  | .ok f e1 => .ok f (wipeE e1 vs)
  | .exn c e1 => .exn c (wipeE e1 vs)
  | .bad => .bad) else .bad
end Cr

end
section
/-! Cw: max of a list, list(range), is of truth values, insert. -/
namespace Cr
open PySem (Str)
def maxL : Int → List Int → Int
  | m, [] => m
  | m, n :: ns => maxL (if m < n then n else m) ns
theorem maxL_mem : ∀ (ns : List Int) (m : Int), maxL m ns = m ∨ maxL m ns ∈ ns
  | [], m => .inl rfl
  | n :: ns, m => by
    unfold maxL
    rcases maxL_mem ns (if m < n then n else m) with h | h
    · rw [h]
      split
      · exact .inr List.mem_cons_self
      · exact .inl rfl
    · exact .inr (List.mem_cons_of_mem _ h)
theorem maxL_le : ∀ (ns : List Int) (m : Int), m ≤ maxL m ns ∧ ∀ x ∈ ns, x ≤ maxL m ns
  | [], m => ⟨Int.le_refl _, fun _ h => by cases h⟩
  | n :: ns, m => by
    unfold maxL
    obtain ⟨h1, h2⟩ := maxL_le ns (if m < n then n else m)
    have h3 : m ≤ (if m < n then n else m) ∧ n ≤ (if m < n then n else m) := by split <;> omega
    refine ⟨Int.le_trans h3.1 h1, fun x hx => ?_⟩
    rcases List.mem_cons.mp hx with e | e
    · rw [e]; exact Int.le_trans h3.2 h1
    · exact h2 x e
/-- max(xs) -/
def bMaxL : List D → Option D
  | [.lst xs] => match intsD xs with
    | some (n :: ns) => some (.int (maxL n ns))
    | _ => none
  | _ => none
/-- list(range(n)) -/
def bListR1 : List D → Option D
  | [.int n] => if -1000000 ≤ n ∧ n ≤ 1000000 then some (.lst (rangeD 0 n.toNat)) else none
  | _ => none
def gIsB (x y : D) : Option D := match x, y with
  | .bl a, .bl b => some (.bl (decide (a = b)))
  | _, _ => none
def gNoB (x y : D) : Option D := match x, y with
  | .bl a, .bl b => some (.bl (!decide (a = b)))
  | _, _ => none
/-- xs.insert(k, y), k within -/
def insS (i : Nat) (k m : M D) : S := bd (rd i) fun _ => bd k fun kd => bd m fun y => bd (rd i) fun d => match d, kd with
  | .lst xs, .int j => if 0 ≤ j ∧ j ≤ 1000000 ∧ xs.length < LIM then bd (wr i (.lst (xs.take j.toNat ++ [y] ++ xs.drop j.toNat))) fun _ => nx else badM
  | _, _ => badM
/-- len(d) -/
def bLenH : List D → Option D
  | [.dht ks] => some (.int ks.length)
  | _ => none
def dedP : List (Int × Int) → List (Int × Int)
  | [] => []
  | p :: r => if p ∈ dedP r then dedP r else p :: dedP r
theorem dedP_mem : ∀ {l : List (Int × Int)} {x : Int × Int}, x ∈ dedP l ↔ x ∈ l
  | [], x => by simp [dedP]
  | p :: r, x => by
    unfold dedP
    split
    · rename_i h
      rw [dedP_mem, List.mem_cons]
      exact ⟨.inr, fun z => z.elim (fun z => by rw [z]; exact dedP_mem.mp h) id⟩
    · rw [List.mem_cons, List.mem_cons, dedP_mem]
theorem dedP_nd : ∀ l : List (Int × Int), (dedP l).Nodup
  | [] => List.nodup_nil
  | p :: r => by
    unfold dedP
    split
    · exact dedP_nd r
    · rename_i h
      exact List.nodup_cons.mpr ⟨h, dedP_nd r⟩
/-- the pairs, rising, each once -/
def usortP (l : List (Int × Int)) : List (Int × Int) := psort (dedP l)
theorem usortP_mem {l : List (Int × Int)} {x : Int × Int} : x ∈ usortP l ↔ x ∈ l := by rw [usortP, (psort_perm _).mem_iff, dedP_mem]
theorem usortP_nd (l : List (Int × Int)) : (usortP l).Nodup := (psort_perm _).nodup_iff.mpr (dedP_nd l)
/-- sorted(set(xs)), xs pairs of small numbers -/
def bSetP : List D → Option D
  | [.lst xs] => match prsD xs with
    | some ps => if ps.length < 60 ∧ (∀ p ∈ ps, (0 ≤ p.1 ∧ p.1 < 64) ∧ 0 ≤ p.2 ∧ p.2 < 64) then some (.lst ((usortP ps).map prD)) else none
    | none => none
  | _ => none
end Cr

end
section
set_option maxRecDepth 100000
set_option maxHeartbeats 4000000
/-! Lg: promises of defs that also know that no recursion guard is up (what repr of a list asks); the end of a law from such a promise. -/
namespace Lk
open PySem PySem.Spec PyProof.Rows L2
structure RoomG (k : Nat) (A : Around) : Prop extends Room k A where
  g : A.guards = some []
theorem RoomG.mono {j k : Nat} {A : Around} (r : RoomG k A) (h : j ≤ k) : RoomG j A := ⟨r.toRoom.mono h, r.g⟩
theorem RoomG.deep {k : Nat} {A : Around} (r : RoomG (k + 1) A) (env : Env) : RoomG k (A.deeper env) := ⟨r.toRoom.deeper env, r.g⟩
structure FnG (P : Program) (w : World) (K : PySem.W.Frag) (mg : Str → Option Value) (base : Heap) (CX : CXT) (k : Nat) (f : Addr) (fd : FuncData) (ps : List Str) (sp : Sp) : Prop where
  len : ∀ vs H Q E, sp vs H Q E → vs.length = ps.length
  run : ∀ (A : Around) (outer : List Env) (s : Shared) (H : Hp) (us : List Value) (vs : List V) (Q : VK) (E : XK), RoomG k A → Env0 P w K mg base A outer s H → BindsTo s fd ⟨us, []⟩ (ps.zip us) → Vals vs us → sp vs H Q E →
    codeAny (model P w) A (.call (.ref f) ⟨us, []⟩) (CR CX outer P w H s Q E) s
section
variable {P : Program} {w : World} {K : PySem.W.Frag} {mg : Str → Option Value} {base : Heap} {k : Nat} {f : Addr} {fd : FuncData} {CX : CXT} {x qual : Str} {params : Arguments} {body : List Stmt} {scope : Scope} {N ps : List Str} {sp : Sp}
theorem FunD.okG (Fd : FunD K x qual params body scope [] [] f fd) (Sc : FnScope N ps scope) (len : ∀ vs H Q E, sp vs H Q E → vs.length = ps.length)
    (hbody : ∀ (cdv : Value) (A : Around) (outer : List Env) (s : Shared) (H : Hp) (vs : List V) (Q : VK) (E : XK), RoomG k (A.deeper (envOfC qual scope s.heap.objs.size f cdv)) → sp vs H Q E →
      ∃ t, PSs (cxOf CX P w K mg base N qual scope f cdv A outer s H E) body t ∧ t { nx := fun _ H' => Q .non H', rt := Q } (L2.start N vs) H) : FnG P w K mg base CX (k + 1) f fd ps sp := by
  obtain ⟨oc, od, dV, kV, doc, pm, an, cdv, ct, osl, rfl, lk, hcd, _, _⟩ := Fd.ex
  refine ⟨len, fun A outer s H us vs Q E hr e0 hb r hsp => ?_⟩
  have kin : K.In s.heap := e0.mod.kin.keeps fun b o e => (e0.bs b o e).1
  have par : ∀ y ∈ ps.zip us, scope.names.lookup y.1 = some .local ∨ (scope.names.lookup y.1 = some .cell ∧ ((cellsFrom (s.heap.objs.size + 1) scope.names []).lookup y.1).isSome = true) := fun y hy =>
    (Sc.par y.1 (List.of_mem_zip hy).1).imp id fun q => ⟨q, PySem.W.cellsFrom_some _ _ _ (.inl q)⟩
  refine codeAny_call_function hr.depth (kin _ _ lk) rfl Sc.co Sc.gen rfl (PySem.W.codeRec_of kin hcd) (hb _ _ _ _ (wpAny_newFunctionEnv_cells Sc.kind par fun env he s1 ic => ?_))
  subst he
  refine ⟨(e0.mod.nolimit.keeps fun b o e => (e0.bs b o e).1).keeps ic.toInCall.keep, codeAny_func ?_⟩
  obtain ⟨t, ht, hq⟩ := hbody cdv A outer s H vs Q E (hr.deep _) hsp
  have J := inv_start (CX := CX) (qual := qual) (f := f) (cd := cdv) (E := E) Sc hr.hd e0 (len _ _ _ _ hsp) r ic
  refine wpAny_mono (ht.run [] s1 _ H _ J hq) (fun fl z hz => ?_) fun _ _ hz => hz
  match fl, hz with
  | .ret u, ⟨v, σ', H', J', rv, q⟩ => exact ⟨v, H', J'.os, J'.bare, J'.base, J'.hok, rv, q⟩
  | .next, ⟨σ', H', J', q⟩ => exact ⟨.non, H', J'.os, J'.bare, J'.base, J'.hok, rfl, q⟩
  | .brk, ⟨_, _, _, q⟩ => exact False.elim q
  | .cont, ⟨_, _, _, q⟩ => exact False.elim q
end
section
variable {X : Cx} {k : Nat} {f : Addr} {fd : FuncData} {ps : List Str} {sp : Sp} {x : Str} {q pos : Pos} {e : Expr} {es : List Expr} {t : TA} {CX : CXT}
theorem run_fnG {pins : List (Addr × Obj)} {σ : L2.St} {H : Hp} {s : Shared} {Q : VK} {us : List Value} {vs : List V} {E : XK} (F : FnG X.prog X.w X.K X.mg X.base CX k f fd ps sp) (hr : RoomG k X.A) (hb : Binds X.K fd ps []) (hx : PassesAt CX X σ E)
    (I : L2.Inv X pins σ H s) (r : Vals vs us) (h : sp vs H Q E) : wpAny (model X.prog X.w) X.A (call (.ref f) us) (EP X pins σ Q) X.xe s := by
  have bz := hb s us I.kIn (by rw [List.append_nil, ← r.length]; exact F.len _ _ _ _ h)
  rw [List.append_nil] at bz
  refine wpAny_call (codeAny_mono (F.run X.A X.stack s H us vs Q E hr I.env0 bz r h) fun z s2 hz => ?_)
  match z, hz with
  | .error u, hz => exact hx pins H s u s2 I hz
  | .ok (.ret u), hz => exact I.after hz
theorem pe_callGS {E : L2.St → XK} (F : FnG X.prog X.w X.K X.mg X.base CX k f fd ps sp) (hr : RoomG k X.A) (hg : Gl X x) (hm : X.mg x = some (.ref f)) (hk : PySem.W.keepIn X.K (.ref f) = true) (hb : Binds X.K fd ps []) (hx : ∀ σ, PassesAt CX X σ (E σ))
    (ha : PA X (e :: es) t) (hdb : (x == ("__debug__" : Str)) = false := by decide) (he : starEach (e :: es) X.env = (false, eval e X.env) :: starEach es X.env := by rfl) (hpl : (backTo pos (starEach es X.env)).any (·.1) = false := by rfl) :
    PE X (.Call (.Name x q) (e :: es) [] pos) (fun σ H Q => t σ H fun vs H1 => sp vs H1 Q (E σ)) :=
  ⟨fun pins s σ H Q I h => wpAny_Call_Name_kw (ld_glob I hg hm (PySem.W.callWith_K (h₀ := X.base) I.ok.mod.kin hk (thn (ha.run pos pins s σ H _ I h) fun us s1 ⟨vs, H1, I1, r, w⟩ => ⟨I1.kIn, run_fnG F hr hb (hx σ) I1 r w⟩) he hpl) hdb)⟩
theorem pe_callG {E : XK} (F : FnG X.prog X.w X.K X.mg X.base CX k f fd ps sp) (hr : RoomG k X.A) (hg : Gl X x) (hm : X.mg x = some (.ref f)) (hk : PySem.W.keepIn X.K (.ref f) = true) (hb : Binds X.K fd ps []) (hx : Passes CX X E)
    (ha : PA X (e :: es) t) (hdb : (x == ("__debug__" : Str)) = false := by decide) (he : starEach (e :: es) X.env = (false, eval e X.env) :: starEach es X.env := by rfl) (hpl : (backTo pos (starEach es X.env)).any (·.1) = false := by rfl) :
    PE X (.Call (.Name x q) (e :: es) [] pos) (fun σ H Q => t σ H fun vs H1 => sp vs H1 Q E) :=
  pe_callGS (E := fun _ => E) F hr hg hm hk hb (fun σ pins H s e s' I c => hx pins σ H s e s' I c) ha hdb he hpl
theorem pe_callG0 {E : L2.St → XK} (F : FnG X.prog X.w X.K X.mg X.base CX k f fd ps sp) (hr : RoomG k X.A) (hg : Gl X x) (hm : X.mg x = some (.ref f)) (hk : PySem.W.keepIn X.K (.ref f) = true) (hb : Binds X.K fd ps []) (hx : ∀ σ, PassesAt CX X σ (E σ))
    (hdb : (x == ("__debug__" : Str)) = false := by decide) : PE X (.Call (.Name x q) [] [] pos) (fun σ H Q => sp [] H Q (E σ)) :=
  ⟨fun pins s σ H Q I h => wpAny_Call_Name_kw (ld_glob I hg hm (PySem.W.callWith_K0 I.kIn hk (run_fnG (us := []) F hr hb (hx σ) I .nil h)) hdb)⟩
end
/-! ### the end -/
/-- the law's call from the law's promise -/
theorem law_callG {P : Program} {w : World} {K : PySem.W.Frag} {mg mb : Str → Option Value} {CX : CXT} {k : Nat} {fa a : Addr} {fd : FuncData} {x : Str} {sp : Sp} {s : Shared} {vs : List Value} {ns : List Int} (KX : K.In s.heap) (hns : s.heap.Ns mainGlobals mg) (hb : s.heap.Ns builtinsNs mb)
    (hbb : ∀ x : Str, x ≠ "__name__" → mb x = bootBuiltins x) (hlim : s.heap.NoLimit) (hg : s.gens = #[]) (ha : s.heap.get? a = some { cls := .type "list", data := .seq vs.toArray }) (hi : IntsAre vs ns) (hl : ns.length ≤ sizeLine) (hr : RoomG k callerA)
    (F : ∀ base : Heap, K.In base → base.Ns mainGlobals mg → FnG P w K mg base CX k fa fd [x] sp) (hbind : ∀ (s : Shared) (u : Value), BindsTo s fd ⟨[u], []⟩ [(x, u)]) (hsp : ∀ H : Hp, Only H → SqL K H a (ns.map V.int) → sp [.ref a] H (fun v _ => v = .bl true) fun _ _ _ => False)
    (hCX : ∀ H e s', CX [] H s (fun _ _ _ => False) e s' → False) : codeAny (model P w) callerA (.call (.ref fa) ⟨[.ref a], []⟩) (fun r s' => r = .ok (.ret (.bool true)) ∧ OldK s.heap s'.heap ∧ s'.os = s.os ∧ AllBare s'.gens) s := by
  have rv := vals_ints hi
  have lenV : vs.length = ns.length := hi.length
  -- H tracks the script alone, or nothing
  have core : ∀ H : Hp, Only H → SqL K H a (ns.map V.int) → HOk P w H s.heap → (∀ b, H b ≠ none → b = a ∧ K.lookup a = none) → codeAny (model P w) callerA (.call (.ref fa) ⟨[.ref a], []⟩) (fun r s' => r = .ok (.ret (.bool true)) ∧ OldK s.heap s'.heap ∧ s'.os = s.os ∧ AllBare s'.gens) s := by
    intro H hO hS hok hA
    have dictFree : ∀ {b : Addr} {o : Obj} {es : Array DictEntry} {ep : Nat}, s.heap.get? b = some o → o.data = .dict es ep → H b = none := by
      intro b o es ep e d
      apply Classical.byContradiction
      intro z
      obtain ⟨rfl, _⟩ := hA b z
      have := ha.symm.trans e
      cases this
      cases d
    have ofK : ∀ {b : Addr} {o : Obj}, K.lookup b = some o → H b = none := by
      intro b o e
      apply Classical.byContradiction
      intro z
      obtain ⟨rfl, q⟩ := hA b z
      rw [q] at e
      cases e
    have hid : ∀ {b : Addr} {o : Obj}, s.heap.get? b = some o → H b = none → (hidT s.heap H).get? b = some o := fun e n => hidT_get e n
    have nsK : ∀ {b : Addr} {m : Str → Option Value}, s.heap.Ns b m → (hidT s.heap H).Ns b m := fun {b m} ⟨o, es, ep, e, d, r⟩ => ⟨o, es, ep, hid e (dictFree e d), d, r⟩
    have kb : K.In (hidT s.heap H) := fun b o e => hid (KX b o e) (ofK e)
    have hM : Mod K mg (hidT s.heap H) := ⟨kb, nsK hns, ⟨mb, nsK hb, hbb⟩, let ⟨mc, h1, h2⟩ := hlim; ⟨mc, nsK h1, h2⟩⟩
    have e0 : Env0 P w K mg (hidT s.heap H) callerA [] s H := ⟨rfl, hM, fun b o e => of_hidT e, Nat.le_of_eq (hidT_size _ _), trivial, (fun b hb => absurd (show b ∈ ([] : List Addr) from hb) (by simp)), hok, .of_eq hg⟩
    refine codeAny_mono ((F _ kb (nsK hns)).run callerA [] s H [.ref a] [.ref a] _ _ hr e0 (hbind s (.ref a)) (.cons rfl .nil) (hsp H hO hS)) fun r s' h => ?_
    match r, h with
    | .error e, h => exact (hCX H e s' h).elim
    | .ok (.ret u), ⟨v, H', os, bare, un, hok', r', q⟩ =>
      obtain rfl : v = .bl true := q
      obtain rfl : u = Value.bool true := r'
      refine ⟨rfl, OldK.of_keep fun b o e => ?_, os, bare⟩
      cases q : H b with
      | none => exact un.keep b o e q (by intro z; exact absurd (show b ∈ ([] : List Addr) from z) (by simp)) (by simp)
      | some u =>
        rcases hO b with z | ⟨ob, xs, z⟩
        · rw [q] at z; cases z
        · have e1 := (hok b _ z).1
          have e2 := (hok' b _ (un.frzs b ob _ z)).1
          rw [e] at e1
          cases e1
          exact e2
  cases hk : K.lookup a with
  | some o =>
    have e := KX a o hk
    rw [ha] at e
    cases e
    exact core (fun _ => none) (fun _ => .inl rfl) (.inr ⟨_, vs.toArray, _, hk, rfl, rfl, rfl, by rw [List.size_toArray, lenV]; exact hl, by simpa using rv⟩) (fun b u z => nomatch (show (none : Option HO) = some u from z)) fun b z => absurd rfl z
  | none =>
    have at_ : ∀ b u, (fun b => if b = a then some (HO.frz { cls := .type "list", data := .seq vs.toArray } (.lst (ns.map V.int))) else none) b = some u → b = a ∧ u = .frz { cls := .type "list", data := .seq vs.toArray } (.lst (ns.map V.int)) := fun b u z => by
      by_cases q : b = a
      · exact ⟨q, (Option.some.inj ((if_pos q).symm.trans z)).symm⟩
      · cases (if_neg q).symm.trans z
    refine core (fun b => if b = a then some (HO.frz { cls := .type "list", data := .seq vs.toArray } (.lst (ns.map V.int))) else none) (fun b => ?_) (.inl (.inr ⟨{ cls := .type "list", data := .seq vs.toArray }, if_pos rfl⟩)) (fun b u z => ?_) (fun b z => ?_)
    · by_cases q : b = a
      · exact .inr ⟨_, _, if_pos q⟩
      · exact .inl (if_neg q)
    · obtain ⟨rfl, rfl⟩ := at_ b u z
      exact ⟨ha, by rw [List.length_map]; exact hl, vs, _, rv, ha⟩
    · by_cases q : b = a
      · exact ⟨q, hk⟩
      · exact absurd (if_neg q) z
theorem walk_ofG {l : PySem.W.OpenLaw} {n k : Nat} {q : Program} {loose : List Str} {XP : (Str → Option Value) → Heap → Prop} {YP : World → Heap → Prop} {d : DefRec} {CX : CXT} {x : Str} (hn : l.most = some n) (hn2 : n ≤ sizeLine) (hdf : d.params.defaults = []) (hr : RoomG k callerA)
    (F : ∀ (w : World) (mg : Str → Option Value) (fa : Addr) (h : Heap), YP w h → h.Ns mainGlobals mg → mg d.name = some (.ref fa) → ∃ (K : PySem.W.Frag) (fd : FuncData) (sp : Sp), K.In h ∧ (∀ (s : Shared) (u : Value), BindsTo s fd ⟨[u], []⟩ [(x, u)]) ∧
      (∀ (H : Hp) (a : Addr) (ns : List Int), ns.length ≤ n → Only H → SqL K H a (ns.map V.int) → sp [.ref a] H (fun v _ => v = .bl true) fun _ _ _ => False) ∧ ∀ base : Heap, K.In base → base.Ns mainGlobals mg → FnG l.prog w K mg base CX k fa fd [x] sp)
    (hCX : ∀ (H : Hp) (s : Shared) (e : Value) (s' : Shared), CX [] H s (fun _ _ _ => False) e s' → False) : PySem.W.WalkO q loose XP YP l.row.toRowW d [] (fun f vs => PySem.call f vs) :=
  Att.attach_call hn hdf fun w s₀ s₁ mg mb fa o pm cd doc a vs ns G Y ho hd hcd hmg hobj hints hlen hg => by
    obtain ⟨K, fd, sp, KX, hb, hsp, hF⟩ := F w mg fa _ Y G.T.g hmg
    exact law_callG KX G.T.g G.T.b G.T.builtins G.T.nolimit hg hobj hints (Nat.le_trans hlen hn2) hr hF hb (fun H hO hS => hsp H a ns hlen hO hS) fun H e s' => hCX H s₁ e s'
end Lk

end
section
set_option maxRecDepth 100000
set_option maxHeartbeats 4000000
/-! Lx: exceptions that are made without arguments: where they are caught, it is known that they have none. -/
namespace Lk
open PySem PySem.Spec PyProof.Rows L2
/-- of class c, without a dict, its arguments the tuple at t -/
def Za (c : Value) (t : Addr) (o : Obj) : Prop := Zc c none o ∧ ∀ fs : Array Value, o.data = .fields fs → fs[0]? = some (.ref t)
theorem za_st {c : Value} {t : Addr} : PXN.Steady1 (Za c t) := fun o v ⟨h, k⟩ => by
  refine ⟨⟨PXN.steady_cls o v h.1, PXN.steady_dict o v h.2⟩, ?_⟩
  obtain ⟨c0, d0, dt, sl⟩ := o
  cases dt with
  | fields fs =>
    intro gs e
    cases e
    have := k fs rfl
    simpa [Array.getElem?_setIfInBounds] using this
  | _ => intro gs e; cases e
section
variable {h B : Heap} {a : Addr} {Z Z' : Obj → Prop} {l : List Env} {L : Addr} {v : Value}
theorem tr_imp (x : HandSPX.TracedZ h B a Z v) (i : ∀ o, h.get? a = some o → Z o → Z' o) : HandSPX.TracedZ h B a Z' v := by
  obtain ⟨o, fs, T, oT, ts, e, z, r⟩ := x
  exact ⟨o, fs, T, oT, ts, e, i o e z, r⟩
theorem fly_imp (x : HandSPX.FlyingZ B l a Z h) (i : ∀ o, h.get? a = some o → Z o → Z' o) : HandSPX.FlyingZ B l a Z' h := ⟨x.1, x.2.1, x.2.2.1, tr_imp x.2.2.2 i⟩
theorem sky_imp (x : Sky B l a Z L h) (i : ∀ o, h.get? a = some o → Z o → Z' o) : Sky B l a Z' L h := by
  rcases x with ⟨k1, k2, k3, o, fs, e, z, r⟩ | x | ⟨k1, k2, k3, k4⟩
  · exact .inl ⟨k1, k2, k3, o, fs, e, i o e z, r⟩
  · exact .inr (.inl (fly_imp x i))
  · exact .inr (.inr ⟨k1, k2, k3, tr_imp k4 i⟩)
end
/-- the thing at a is such an exception; its arguments are none -/
abbrev ArgsAt (a t : Addr) (c : Value) (h : Heap) : Prop := ∃ o, h.get? a = some o ∧ Za c t o
abbrev WA (c : Value) (t : Addr) (W : WX) : WX := fun c' d σ H => (c' = c ∧ d = none ∧ H t = some (.tup [])) ∧ W c none σ H
abbrev EA (c : Value) (t : Addr) (E : XK) : XK := fun c' d H => (c' = c ∧ d = none ∧ H t = some (.tup [])) ∧ E c none H
def XA (X : Cx) (W : WX) (u : Value) (s' : Shared) : Prop := ∃ (a t : Addr) (c : Value), u = .ref a ∧ ArgsAt a t c s'.heap ∧ XE X (WA c t W) u s'
def TkA (X : Cx) (W : WX) : Prop := ∀ u s', XA X W u s' → X.xe u s'
/-- what a call lets out -/
def CXA (P : Program) (w : World) (outer : List Env) (H : Hp) (s : Shared) (E : XK) (u : Value) (s' : Shared) : Prop :=
  ∃ (a t : Addr) (c : Value), u = .ref a ∧ ArgsAt a t c s'.heap ∧ CX P w outer H s (EA c t E) u s'
section
variable {X : Cx} {pins : List (Addr × Obj)} {σ : L2.St} {H : Hp} {s s' : Shared} {W : WX} {E : XK} {u : Value}
theorem TkA.of (t : Takes X W) : TkA X W := fun u s' ⟨_, _, _, _, _, a, B, sI, pins, σ, H, c', d, e, I, nb, up, sky, na, os, ag, ⟨e1, e2, _⟩, w⟩ =>
  t u s' ⟨a, B, sI, pins, σ, H, c', d, e, I, nb, up, sky, na, os, ag, by rw [e1, e2]; exact w⟩
theorem XA.imp {W' : WX} (x : XA X W u s') (h : ∀ c σ H, W c none σ H → W' c none σ H) : XA X W' u s' := by
  obtain ⟨a, t, c, e, r, a1, B, sI, pins, σ, H, c', d, e1, I, nb, up, sky, na, os, ag, q, w⟩ := x
  exact ⟨a, t, c, e, r, a1, B, sI, pins, σ, H, c', d, e1, I, nb, up, sky, na, os, ag, q, h _ _ _ w⟩
theorem XA.ofCall (I : Inv X pins σ H s) (hW : ∀ c H', E c none H' → W c none σ H') (x : CXA X.prog X.w X.stack H s E u s') : XA X W u s' := by
  obtain ⟨a, t, c, e, r, x⟩ := x
  exact ⟨a, t, c, e, r, XE.of_call I (fun _ _ _ q => ⟨q.1, hW _ _ q.2⟩) x⟩
theorem XA.leave (hs : X.stack = X.env :: X.outer) (hf : X.env.frame = some X.env.locals) (hex : X.ex = []) {E1 : Value → Shared → Prop} (hW : ∀ c σ H, W c none σ H → E c none H) (x : XA X W u s') :
    wpAny (model X.prog X.w) X.A (leaving X.env u) (fun _ s2 => CXA X.prog X.w X.outer X.H_0 X.s_0 E u s2) E1 s' := by
  obtain ⟨a, t, c, e0, ⟨o, ho, hz⟩, a', B, sI, pins, σ, H, c', d, e, I, nb, up, sky, na, os, ag, ⟨e1, e2, ht⟩, w⟩ := x
  subst e0 e1 e2
  cases e
  have sky := sky_imp (Z' := Za c' t) sky fun o' h' _ => by rw [ho] at h'; cases h'; exact hz
  have hex : ∀ b, b ∉ X.ex := fun b z => by rw [hex] at z; cases z
  have off : ∀ b q, X.s_0.heap.get? b = some q → b ∉ X.fs → b ∉ frs X.stack := fun b q hb n z => (List.mem_cons.mp (I.stkSub b z)).elim (fun r => by
    have r1 := Heap.lt_size hb
    rw [r] at r1
    exact Nat.lt_irrefl _ (Nat.lt_of_lt_of_le r1 I.ok.above)) n
  have land : ∀ h2, HandSPX.FlyingZ B X.outer a (Za c' t) h2 → s'.heap.UpToSlots h2 → CXA X.prog X.w X.outer X.H_0 X.s_0 E (.ref a) { s' with heap := h2 } := fun h2 fl up2 => by
    have ub : UB (frs X.outer) X.H_0 H X.s_0.heap B h2 := by
      constructor
      · exact fun b q e n hb => nb b q (I.base.keep b q e n hb (hex b)) (off b q e hb)
      · intro b q e hb
        obtain ⟨_, q0, e0, nf⟩ := I.ok.funs.mem hb
        rw [e] at e0
        cases e0
        obtain ⟨l1, r1⟩ := I.base.slot b q e (I.ok.frf b hb) hb (hex b)
        obtain ⟨l2, r2⟩ := up b _ r1 nf
        obtain ⟨l3, r3⟩ := up2 b _ r2 nf
        exact ⟨l3, r3⟩
      · exact fun b q e n => I.base.free b q e n (hex b)
      · intro b q e hb
        obtain ⟨q2, r2⟩ := I.base.there b q e (hex b)
        exact ⟨q2, nb b q2 r2 (off b q e hb)⟩
      · exact I.base.tups
      · exact I.base.frzs
      · exact I.base.tbls
    obtain ⟨o2, _, r2, z2, _⟩ := fl.there
    exact ⟨a, t, c', rfl, ⟨o2, r2, z2⟩, a, B, H, c', none, rfl, fly_imp fl fun _ _ z => z.1, I.inGround nb, ub, na, os.trans I.os, ag, ⟨rfl, rfl, ht⟩, hW _ _ _ w⟩
  have hfr : X.A.frames = some (X.env :: X.outer) := by rw [I.ok.frames, hs]
  rw [hs] at sky
  rcases sky with ⟨k1, k2, k3, q, fs, r1, r2, r3, r4⟩ | fl | hd
  · exact PXN.leaving_firstZ za_st hfr k3 hf r1 k1 k2 r3 r4 r2 land
  · exact PXN.leaves_onZ za_st hfr hf fl land
  · exact HandSPX.leaves_heldZ hf hd land
theorem tkA_of (hs : X.stack = X.env :: X.outer) (hf : X.env.frame = some X.env.locals) (hex : X.ex = []) {E1 : Value → Shared → Prop}
    (hx : X.xe = fun e s' => wpAny (model X.prog X.w) X.A (leaving X.env e) (fun _ s2 => CXA X.prog X.w X.outer X.H_0 X.s_0 E e s2) E1 s') : TkA X (fun c d _ H => E c d H) := fun u s' x => by
  rw [hx]
  exact XA.leave (E := E) hs hf hex (fun _ _ _ q => q) x
theorem passA (tk : TkA X W) (hW : ∀ c σ H, E c none H → W c none σ H) : Passes (CXA X.prog X.w) X E := fun _ σ _ _ e s' I x => tk e s' (XA.ofCall I (fun c H' q => hW c σ H' q) x)
theorem passAt (tk : TkA X W) (σ : L2.St) : PassesAt (CXA X.prog X.w) X σ (fun c d H => W c d σ H) := fun _ _ _ e s' I x => tk e s' (XA.ofCall I (fun _ _ q => q) x)
end
/-! ### raise C() -/
section
variable {X : Cx} {pins : List (Addr × Obj)} {σ : L2.St} {H : Hp} {s : Shared} {W : WX} {h' : Heap}
/-- a new thing at a free place is tracked -/
theorem Inv.put {a : Addr} {o : HO} {t' : Nat} (I : Inv X pins σ H s) (k : ∀ b u, s.heap.get? b = some u → h'.get? b = some u) (hp : s.heap.get? a = none) (new : ObjOk X.prog X.w (upd H a o) h' a o) :
    Inv X pins σ (upd H a o) { s with heap := h', toks := t' } := by
  have hn : H a = none := by
    cases e : H a with
    | none => rfl
    | some q => obtain ⟨u, z⟩ := objOk_get (I.hok a q e); rw [hp] at z; cases z
  have up : ∀ {b q}, H b = some q → upd H a o b = some q := fun {b q} e => by rw [upd_ne (ne_of_none e hn)]; exact e
  refine I.un ⟨fun b u e _ _ _ => k b u e, fun b u e _ _ _ => ⟨u.slots, k b u e⟩, fun b u e n _ => ?_, fun b u e _ => ⟨u, k b u e⟩, fun b xs e => up e, fun b u xs e => up e, fun b ps e => ⟨#[], by rw [up e]; simp⟩⟩ fun b u e => ?_
  · rw [upd_ne (show b ≠ a from fun z => by rw [z, hp] at e; cases e)]
    exact n
  · by_cases hb : b = a
    · subst hb
      rw [upd_same] at e
      cases e
      exact new
    · rw [upd_ne hb] at e
      exact (I.hok b u e).stay (fun c v _ q => k c v q) (fun c q => up q) fun c xs q => up q
theorem ps_raiseA {x : Str} {Ca : Addr} {p pos p0 : Pos} (hc : X.calm = true) (tk : TkA X W) (q1 : PySem.W.excIn X.K Ca He.veBase "ValueError.__new__" = true) (gC : X.mg x = some (.ref Ca)) (kC : PySem.W.keepIn X.K (.ref Ca) = true) (r : Raises X (.ref Ca)) (hg : Gl X x)
    (hdb : (x == ("__debug__" : Str)) = false) : PS X (.Raise (some (.Call (.Name x p) [] [] pos)) none p0) (fun _ σ H => ∀ t, H t = none → W (.ref Ca) none σ (upd H t (.tup []))) := by
  refine ⟨fun pins s σ H D I h => ?_⟩
  rw [arm_exec_Raise]
  refine wpAny_bind (wpAny_standAt (raise_made (I.ok.hd hc) (wpAny_bind (wpAny_Call_Name_kw (ld_glob I hg gC (PySem.W.callWith_K0 (first := []) I.kIn kC ?_) hdb)))))
  obtain ⟨bm, N, nm, qn, bs, hdct, sn, sub, ab, col, dd, k0, k1, k2, k3, k5, mN, hC, hN, hni, T⟩ := exc_obj I.kIn q1
  refine wpAny_call_exc_subT PySem.F.excBase_ValueError T hC hN hni (fun h1 e hm => wpAny_bind (wpAny_standAt (wpAny_pure ?_))) (Nat.zero_le _)
  obtain ⟨t, he, hnt, ht⟩ := hm.there
  have net : t ≠ e := fun z => by rw [z, he] at ht; injection ht with ht; injection ht with _ _ ht; cases ht
  have nH : ∀ {b}, s.heap.get? b = none → H b = none := fun {b} hb => by
    cases q : H b with
    | none => rfl
    | some o => obtain ⟨u, z⟩ := objOk_get (I.hok b o q); rw [hb] at z; cases z
  have hid : ∀ {b o}, h1.get? b = some o → b ≠ e → (PySem.W.hideAll h1 [e]).get? b = some o := fun {b o} q n => PySem.W.hideAll_get _ q (by simpa using n)
  have J : Inv X pins σ (upd H t (.tup [])) { s with heap := PySem.W.hideAll h1 [e] } := Inv.put (t' := s.toks) I (fun b o q => hid (hm.keeps b o q) fun z => by rw [z, hm.new] at q; cases q) hnt
    ⟨Nat.zero_le _, [], .nil, ⟨_, hid ht net, rfl, _, rfl⟩⟩
  obtain ⟨r1, r2⟩ := r (model X.prog X.w) h1 (I.kIn.keeps hm.keeps)
  refine ⟨e, _, _, .ref Ca, rfl, he, rfl, rfl, rfl, r1, r2, tk _ _ ⟨e, t, .ref Ca, rfl, ⟨_, he, ⟨rfl, rfl⟩, fun fs z => by cases z; rfl⟩, ?_⟩⟩
  refine XE.new (sI := { s with heap := PySem.W.hideAll h1 [e] }) (s' := { s with heap := h1 }) J (fun b o q => PySem.W.of_hideAll _ q) (PySem.W.hideAll_none _ (by simp)) he ⟨rfl, rfl⟩ rfl rfl ?_ rfl I.bare ⟨⟨rfl, rfl, upd_same⟩, h t (nH hnt)⟩
  rw [upd_ne (Ne.symm net)]
  exact nH hm.new
end
/-! ### try: .. except C as n: .., every exception of the body one of C's -/
section
variable {X : Cx} {x n : Str} {c : Value} {i : Nat} {body suite : List Stmt} {b0 : Stmt} {np pos pos' : Pos} {tb : WX → TS} {ts : Addr → Addr → Value → TS} {W : WX}
/-- what the clause wishes of an exception of the body -/
def wAsA (K : PySem.W.Frag) (c : Value) (i : Nat) (ts : Addr → Addr → Value → TS) (D : Ends) : WX := fun cls _ σ H => PySem.W.exmOne K cls c = some true ∧
  ∀ a t, H a = none → H t = some (.tup []) → ts a t cls { nx := fun σ' H' => D.nx (σ'.set i none) H', rt := D.rt, bk := fun σ' H' => D.bk (σ'.set i none) H', ct := fun σ' H' => D.ct (σ'.set i none) H' } (σ.set i (some (.ref a))) H
theorem ps_tryA (hs : X.stack = X.env :: X.outer) (hf : X.env.frame = some X.env.locals) (hN : X.N.Nodup) (hi : X.N[i]? = some n) (hln : X.env.kindOf n = some .local) (hc : Names X x c)
    (hb : ∀ (W : WX) (pn : List (Addr × Obj)) (xe : Value → Shared → Prop), TkA (X.tr pn xe) W → PSs (X.tr pn xe) body (tb W))
    (hsu : ∀ (a t : Addr) (oe : Obj) (cls : Value) (pn : List (Addr × Obj)), Za cls t oe → (∃ vs, oe.data = .fields vs) → PSs (X.suite a ((a, oe) :: pn)) (b0 :: suite) (ts a t cls)) :
    PS X (.Try body [.ExceptHandler (some (.Name x np)) (some n) (b0 :: suite) pos'] [] [] pos) (fun D σ H => tb (wAsA X.K c i ts D) D σ H) := by
  refine ⟨fun pins s σ H D I h => wpAny_Try_except ?_⟩
  have ok := I.ok
  have run := (hb (wAsA X.K c i ts D) (X.pn ++ pins) (fun e s1 => wpAny (model X.prog X.w) X.A (noteFrame e X.env) (fun _ s2 => wpAny (model X.prog X.w) X.A (setFlight e none)
    (fun _ s3 => wpAny (model X.prog X.w) X.A (handleBy e X.env [.ExceptHandler (some (.Name x np)) (some n) (b0 :: suite) pos']) (SP X pins D) X.xe s3) X.xe s2) X.xe s1) (fun u s' xx => ?caught)).run [] s σ H D (I.toTry _) h
  case caught =>
    obtain ⟨a, t, cls, e0, ⟨o, ho, hz⟩, a', B, sI, pins', σ', H', c', d, e, J', nb, up, sky, na, os, ag, ⟨e1, e2, ht⟩, hb1, hy⟩ := xx
    subst e0 e1 e2
    cases e
    have J : Inv X pins σ' H' sI := J'.ofTry ok
    have sky : Sky B (X.env :: X.outer) a (Za c' t) X.env.locals s'.heap := by
      rw [← hs]
      exact sky_imp sky fun o' h' _ => by rw [ho] at h'; cases h'; exact hz
    have hfr : X.A.frames = some (X.env :: X.outer) := by rw [ok.frames, hs]
    refine L2N.Sky.land za_st hfr hf sky fun h3 fl3 up3 => ?_
    have J3 : Inv X pins σ' H' { s' with heap := h3 } := J.landed nb fl3.1 (up.trans up3) os ag
    obtain ⟨q3, fs3, r3, z3, d3⟩ := fl3.there
    have nfr : a ∉ frs (X.env :: X.outer) := fun hm => by
      obtain ⟨_, q, r, nf⟩ := fl3.2.2.1.mem hm
      rw [r3] at r
      cases r
      exact nf _ d3
    have nL : a ≠ X.env.locals := fun z => nfr (List.mem_filterMap.mpr ⟨X.env, List.mem_cons_self, z ▸ hf⟩)
    have nF : a ∉ X.fs := fun hm => by
      obtain ⟨env, m, z⟩ := List.mem_filterMap.mp hm
      exact nfr (List.mem_filterMap.mpr ⟨env, List.mem_cons_of_mem _ m, z⟩)
    have S3 := J3.suite r3 d3 na nL nF
    refine wpAny_handleBy_cons (codeAny_handlers_test ?_) (fun z => by cases z)
    have cl : PySem.W.Looks (model X.prog X.w) h3 (typeOf (.ref a)) c' := fun A Q E s k q => wpAny_typeOf_ref (k _ _ r3) (by rw [z3.1.1]; exact q)
    have nm : ∀ {Q : Value → Shared → Prop} {E : Value → Shared → Prop}, Q c { s' with heap := h3 } → wpAny (model X.prog X.w) (X.A.mark (some (.ref a))) (eval (.Name x np) X.env) Q E { s' with heap := h3 } := fun {Q E} q => by
      obtain ⟨k1, k2, k3 | ⟨k3, k4, k5⟩⟩ := hc
      · exact ld_glob (X := X.suite a ((a, q3) :: (X.pn ++ pins))) S3 k1 k3 q k2
      · exact ld_blt (X := X.suite a ((a, q3) :: (X.pn ++ pins))) S3 k1 k3 k4 q k5 k2
    refine nm ((PySem.W.exm_one (M := model X.prog X.w) J3.kIn cl hb1).here (codeAny_handlers_suite_as ?_))
    refine HandSPX.lands_againZ fl3 fun h4 fl4 up4 => ?_
    have J4 : Inv X pins σ' H' { s' with heap := h4 } := J.landed nb fl4.1 ((up.trans up3).trans up4) os ag
    obtain ⟨q4, fs4, r4, z4, d4⟩ := fl4.there
    refine store_ok (X := X.suite a ((a, q4) :: (X.pn ++ pins))) (v := .ref a) (J4.suite r4 d4 na nL nF) hN hi (.inl hln) rfl (fun s5 S5 => ?_) (.inr hln)
    refine wpAny_mono ((hsu a t q4 c' (X.pn ++ pins) z4 ⟨_, d4⟩).run [] s5 _ H' _ S5 (hy a t na ht)) (fun f s6 r => ?_) fun _ _ z => z.elim
    have gone : ∀ {σ6 : L2.St} {H6 : Hp} {Q : Shared → Prop}, Inv (X.suite a ((a, q4) :: (X.pn ++ pins))) [] σ6 H6 s6 → (∀ s7, Inv X pins (σ6.set i none) H6 s7 → Q s7) →
        wpAny (model X.prog X.w) X.A (do bindName X.env n .none; unbindBehindTheSuite X.env n pos') (fun _ s7 => Q s7) X.xe s6 := fun {σ6 H6 Q} S6 q => gone_ok (S6.unsuite ok) hN hi hln q
    match f, r with
    | .next, ⟨_, _, S6, k⟩ => exact gone S6 fun _ J7 => ⟨_, _, J7, k⟩
    | .brk, ⟨_, _, S6, k⟩ => exact gone S6 fun _ J7 => ⟨_, _, J7, k⟩
    | .cont, ⟨_, _, S6, k⟩ => exact gone S6 fun _ J7 => ⟨_, _, J7, k⟩
    | .ret u, ⟨_, _, _, S6, rv, k⟩ => exact gone S6 fun _ J7 => ⟨_, _, _, J7, rv, k⟩
  refine wpAny_mono run (fun f s1 r => ?_) fun e s1 z => z
  match f, r with
  | .next, ⟨_, _, K, k⟩ => exact wpAny_execs_nil ⟨_, _, K.ofTry ok, k⟩
  | .brk, ⟨_, _, K, k⟩ => exact ⟨_, _, K.ofTry ok, k⟩
  | .cont, ⟨_, _, K, k⟩ => exact ⟨_, _, K.ofTry ok, k⟩
  | .ret u, ⟨_, _, _, K, rv, k⟩ => exact ⟨_, _, _, K.ofTry ok, rv, k⟩
end
end Lk

end
section
set_option maxRecDepth 100000
set_option maxHeartbeats 4000000
/-! Lk: how the plain functions of Cr lie over the hand layer: what a value stands for (Rep), what the slots hold (RepE), the readings (tE, tF, tS) and a rule for each construct. -/
namespace Lk
open PySem PySem.Spec PyProof.Rows L2 Cr

/-! ### what a value stands for -/
def WrT (K : PySem.W.Frag) (a : Addr) (xs : List V) : Prop := ∃ (o : Obj) (its : Array Value) (n : Nat), K.lookup a = some o ∧ o.cls = .type "tuple" ∧ o.data = .seq its n ∧ its.size ≤ sizeLine ∧ Vals xs its.toList
def WrL (K : PySem.W.Frag) (a : Addr) (xs : List V) : Prop := ∃ (o : Obj) (its : Array Value) (n : Nat), K.lookup a = some o ∧ o.cls = .type "list" ∧ o.dict = none ∧ o.data = .seq its n ∧ its.size ≤ sizeLine ∧ Vals xs its.toList
def TupA (K : PySem.W.Frag) (O : Addr → Prop) (H : Hp) (a : Addr) (xs : List V) : Prop := (¬ O a ∧ Rd H a (.tup xs)) ∨ WrT K a xs
def LstA (K : PySem.W.Frag) (O : Addr → Prop) (H : Hp) (a : Addr) (xs : List V) : Prop := (¬ O a ∧ Rd H a (.lst xs)) ∨ WrL K a xs
/-! ### keys that are tuples -/
mutual
def hD : D → Int
  | .int i => hashInt i
  | .tup xs => reduceHash (Builtin.Tuple.tupleHashOf (hDL xs))
  | _ => 0
def hDL : List D → List Int
  | [] => []
  | x :: xs => hD x :: hDL xs
end
mutual
def nkD : D → NestedKey
  | .int i => .num i
  | .tup xs => .tup (nkDL xs)
  | _ => .none
def nkDL : List D → List NestedKey
  | [] => []
  | x :: xs => nkD x :: nkDL xs
end
/-- a dict whose keys are tuples: its entries (the key, the key's address, the value) -/
abbrev HEnt := List (D × Addr × V)
def HRaw (a : Addr) (xs : HEnt) (h : Heap) : Prop := ∃ vs : List (D × Addr × Value), Paired (fun (p : D × Addr × V) (q : D × Addr × Value) => p.1 = q.1 ∧ p.2.1 = q.2.1 ∧ RelV p.2.2 q.2.2) xs vs ∧
  ∃ o es ep, h.get? a = some o ∧ o.ExactDict ∧ o.data = .dict es ep ∧ es.toList = vs.map (fun x => (⟨hD x.1, .ref x.2.1, x.2.2⟩ : DictEntry)) ∧ (vs.map fun x => nkD x.1).Nodup ∧ (a == sysModules) = false ∧ xs.length ≤ sizeLine
def HdO (a : Addr) (xs : HEnt) : HO := .ext (HRaw a xs)
mutual
def Rep (K : PySem.W.Frag) (O : Addr → Prop) (H : Hp) : D → V → Prop
  | .non, v => v = .non
  | .bl b, v => v = .bl b
  | .int i, v => v = .int i
  | .str s, v => v = .str s
  | .tup ds, v => ∃ a vs, v = .ref a ∧ TupA K O H a vs ∧ RepL K O H ds vs
  | .lst ds, v => ∃ a vs, v = .ref a ∧ LstA K O H a vs ∧ RepL K O H ds vs
  | .dct ks, v => ∃ a us, v = .ref a ∧ ¬ O a ∧ H a = some (.dK us) ∧ RepD K O H ks us
  | .dht ks, v => ∃ a us, v = .ref a ∧ ¬ O a ∧ H a = some (HdO a us) ∧ RepH K O H ks us
  | .own _, _ => False
  | .ins _ _, _ => False
def RepL (K : PySem.W.Frag) (O : Addr → Prop) (H : Hp) : List D → List V → Prop
  | [], vs => vs = []
  | d :: ds, vs => ∃ v r, vs = v :: r ∧ Rep K O H d v ∧ RepL K O H ds r
/-- a dict's entries: numbers as keys -/
def RepD (K : PySem.W.Frag) (O : Addr → Prop) (H : Hp) : List (D × D) → List (Key × V) → Prop
  | [], us => us = []
  | p :: ks, us => ∃ u r, us = u :: r ∧ RepP K O H p u ∧ RepD K O H ks r
def RepP (K : PySem.W.Frag) (O : Addr → Prop) (H : Hp) : D × D → Key × V → Prop
  | (k, d), u => (∃ n, k = .int n ∧ u.1 = Sum.inl n) ∧ Rep K O H d u.2
/-- .. tuples as keys -/
def RepH (K : PySem.W.Frag) (O : Addr → Prop) (H : Hp) : List (D × D) → HEnt → Prop
  | [], us => us = []
  | p :: ks, us => ∃ u r, us = u :: r ∧ RepQ K O H p u ∧ RepH K O H ks r
def RepQ (K : PySem.W.Frag) (O : Addr → Prop) (H : Hp) : D × D → D × Addr × V → Prop
  | (k, d), u => (u.1 = k ∧ kyT k = true) ∧ Rep K O H k (.ref u.2.1) ∧ Rep K O H d u.2.2
end
section
variable {K : PySem.W.Frag} {O O' : Addr → Prop} {H H' : Hp}
/-- what lies outside O stands -/
def Keeps (O : Addr → Prop) (H H' : Hp) : Prop := ∀ a o, H a = some o → ¬ O a → H' a = some o
def Grows (O O' : Addr → Prop) (H : Hp) : Prop := ∀ a, O' a → O a ∨ H a = none
theorem Rd.keep {a : Addr} {u : HO} (k : Keeps O H H') (n : ¬ O a) (r : Rd H a u) : Rd H' a u := by
  rcases r with r | ⟨o, r⟩
  · exact .inl (k a _ r n)
  · exact .inr ⟨o, k a _ r n⟩
theorem Rd.some {a : Addr} {u : HO} (r : Rd H a u) : H a ≠ none := by
  rcases r with r | ⟨o, r⟩ <;> (intro e; rw [e] at r; cases r)
theorem TupA.move {a : Addr} {xs : List V} (k : Keeps O H H') (g : Grows O O' H) (h : TupA K O H a xs) : TupA K O' H' a xs := by
  rcases h with ⟨n, r⟩ | h
  · exact .inl ⟨fun z => (g a z).elim n (Rd.some r), Rd.keep k n r⟩
  · exact .inr h
theorem LstA.move {a : Addr} {xs : List V} (k : Keeps O H H') (g : Grows O O' H) (h : LstA K O H a xs) : LstA K O' H' a xs := by
  rcases h with ⟨n, r⟩ | h
  · exact .inl ⟨fun z => (g a z).elim n (Rd.some r), Rd.keep k n r⟩
  · exact .inr h
mutual
theorem Rep.move (k : Keeps O H H') (g : Grows O O' H) : ∀ (d : D) (v : V), Rep K O H d v → Rep K O' H' d v
  | .non, _, h => h
  | .bl _, _, h => h
  | .int _, _, h => h
  | .str _, _, h => h
  | .tup ds, v, h => by
    obtain ⟨a, vs, e, t, l⟩ := h
    exact ⟨a, vs, e, t.move k g, RepL.move k g ds vs l⟩
  | .lst ds, v, h => by
    obtain ⟨a, vs, e, t, l⟩ := h
    exact ⟨a, vs, e, t.move k g, RepL.move k g ds vs l⟩
  | .dct ks, v, h => by
    obtain ⟨a, us, e, n, t, l⟩ := h
    exact ⟨a, us, e, fun z => (g a z).elim n fun q => (by rw [q] at t; cases t), k a _ t n, RepD.move k g ks us l⟩
  | .dht ks, v, h => by
    obtain ⟨a, us, e, n, t, l⟩ := h
    exact ⟨a, us, e, fun z => (g a z).elim n fun q => (by rw [q] at t; cases t), k a _ t n, RepH.move k g ks us l⟩
  | .own _, _, h => h.elim
  | .ins _ _, _, h => h.elim
theorem RepL.move (k : Keeps O H H') (g : Grows O O' H) : ∀ (ds : List D) (vs : List V), RepL K O H ds vs → RepL K O' H' ds vs
  | [], _, h => h
  | d :: ds, _, h => by
    obtain ⟨v, r, e, h1, h2⟩ := h
    exact ⟨v, r, e, Rep.move k g d v h1, RepL.move k g ds r h2⟩
theorem RepD.move (k : Keeps O H H') (g : Grows O O' H) : ∀ (ds : List (D × D)) (vs : List (Key × V)), RepD K O H ds vs → RepD K O' H' ds vs
  | [], _, h => h
  | d :: ds, _, h => by
    obtain ⟨v, r, e, h1, h2⟩ := h
    exact ⟨v, r, e, RepP.move k g d v h1, RepD.move k g ds r h2⟩
theorem RepP.move (k : Keeps O H H') (g : Grows O O' H) : ∀ (d : D × D) (v : Key × V), RepP K O H d v → RepP K O' H' d v
  | (_, d), u, h => ⟨h.1, Rep.move k g d u.2 h.2⟩
theorem RepH.move (k : Keeps O H H') (g : Grows O O' H) : ∀ (ds : List (D × D)) (vs : HEnt), RepH K O H ds vs → RepH K O' H' ds vs
  | [], _, h => h
  | d :: ds, _, h => by
    obtain ⟨v, r, e, h1, h2⟩ := h
    exact ⟨v, r, e, RepQ.move k g d v h1, RepH.move k g ds r h2⟩
theorem RepQ.move (k : Keeps O H H') (g : Grows O O' H) : ∀ (d : D × D) (v : D × Addr × V), RepQ K O H d v → RepQ K O' H' d v
  | (j, d), u, h => ⟨h.1, Rep.move k g j _ h.2.1, Rep.move k g d _ h.2.2⟩
end
theorem Keeps.rfl' : Keeps O H H := fun _ _ h _ => h
theorem Rep.weak (w : ∀ a, O' a → O a) {d : D} {v : V} (h : Rep K O H d v) : Rep K O' H d v := Rep.move Keeps.rfl' (fun a z => .inl (w a z)) d v h
theorem RepL.weak (w : ∀ a, O' a → O a) {d : List D} {v : List V} (h : RepL K O H d v) : RepL K O' H d v := RepL.move Keeps.rfl' (fun a z => .inl (w a z)) d v h
theorem RepL.length : ∀ {ds : List D} {vs : List V}, RepL K O H ds vs → vs.length = ds.length
  | [], _, h => by cases h; rfl
  | d :: ds, _, h => by
    obtain ⟨v, r, rfl, _, h2⟩ := h
    simp [RepL.length h2]
theorem RepL.get : ∀ {ds : List D} {vs : List V} {i : Nat} {d : D}, RepL K O H ds vs → ds[i]? = some d → ∃ v, vs[i]? = some v ∧ Rep K O H d v
  | [], _, _, _, _, e => by simp at e
  | d :: ds, _, 0, x, h, e => by
    obtain ⟨v, r, rfl, h1, _⟩ := h
    simp at e; subst e; exact ⟨v, rfl, h1⟩
  | d :: ds, _, i + 1, x, h, e => by
    obtain ⟨v, r, rfl, _, h2⟩ := h
    obtain ⟨u, q1, q2⟩ := RepL.get (i := i) h2 (by simpa using e)
    exact ⟨u, by simpa using q1, q2⟩
theorem RepL.append : ∀ {ds es : List D} {vs us : List V}, RepL K O H ds vs → RepL K O H es us → RepL K O H (ds ++ es) (vs ++ us)
  | [], _, _, _, h, q => by cases h; exact q
  | d :: ds, es, _, us, h, q => by
    obtain ⟨v, r, rfl, h1, h2⟩ := h
    exact ⟨v, r ++ us, rfl, h1, RepL.append h2 q⟩
theorem RepL.one {d : D} {v : V} (h : Rep K O H d v) : RepL K O H [d] [v] := ⟨v, [], rfl, h, rfl⟩
theorem RepL.set : ∀ {ds : List D} {vs : List V} {i : Nat} {d : D} {v : V}, RepL K O H ds vs → Rep K O H d v → RepL K O H (ds.set i d) (vs.set i v)
  | [], _, _, _, _, h, _ => by cases h; rfl
  | d :: ds, _, 0, x, y, h, q => by
    obtain ⟨v, r, rfl, _, h2⟩ := h
    exact ⟨y, r, rfl, q, h2⟩
  | d :: ds, _, i + 1, x, y, h, q => by
    obtain ⟨v, r, rfl, h1, h2⟩ := h
    exact ⟨v, r.set i y, rfl, h1, RepL.set h2 q⟩
theorem TupA.sq {a : Addr} {xs : List V} (h : TupA K O H a xs) : SqT K H a xs := by
  rcases h with ⟨_, r⟩ | h
  · exact .inl r
  · exact .inr h
theorem LstA.sq {a : Addr} {xs : List V} (h : LstA K O H a xs) : SqL K H a xs := by
  rcases h with ⟨_, r⟩ | h
  · exact .inl r
  · exact .inr h
end

/-! ### modes: what a slot holds -/
inductive Md where
  /-- data (never changed) | a list that only this slot has, its items data -/
  | dat | ol
  /-- a list as .ol, or a thing without an address -/
  | ox
  /-- a dict that only this slot has, its keys numbers, its values data -/
  | od
  /-- .. its keys tuples -/
  | oh
  /-- a list of lists, all of which only this slot has -/
  | oll
  deriving DecidableEq
def RepM (K : PySem.W.Frag) (O : Addr → Prop) (H : Hp) : Md → D → V → List Addr → Prop
  | .dat, d, v, fp => fp = [] ∧ Rep K O H d v
  | .ol, d, v, fp => ∃ a vs ds, d = .lst ds ∧ v = .ref a ∧ fp = [a] ∧ H a = some (.lst vs) ∧ RepL K O H ds vs
  | .ox, d, v, fp => (∃ a vs ds, d = .lst ds ∧ v = .ref a ∧ fp = [a] ∧ H a = some (.lst vs) ∧ RepL K O H ds vs) ∨ (nolst d = true ∧ fp = [] ∧ Rep K O H d v)
  | .od, d, v, fp => ∃ a us ks, d = .dct ks ∧ v = .ref a ∧ fp = [a] ∧ H a = some (.dK us) ∧ RepD K O H ks us
  | .oh, d, v, fp => ∃ a us ks, d = .dht ks ∧ v = .ref a ∧ fp = [a] ∧ H a = some (HdO a us) ∧ RepH K O H ks us
  | .oll, d, v, fp => ∃ (a : Addr) (bs : List Addr) (dss : List (List D)), d = .own (dss.map .lst) ∧ v = .ref a ∧ fp = a :: bs ∧ fp.Nodup ∧ H a = some (.lst (bs.map .ref)) ∧ bs.length = dss.length ∧ ∀ (i : Nat) b ds, bs[i]? = some b → dss[i]? = some ds → ∃ vs, H b = some (.lst vs) ∧ RepL K O H ds vs
section
variable {K : PySem.W.Frag} {O O' : Addr → Prop} {H H' : Hp} {md : Md} {d : D} {v : V} {fp : List Addr}
theorem RepM.move (k : Keeps O H H') (g : Grows O O' H) (hf : ∀ a ∈ fp, ∀ o, H a = some o → H' a = some o) (h : RepM K O H md d v fp) : RepM K O' H' md d v fp := by
  cases md with
  | dat => exact ⟨h.1, Rep.move k g _ _ h.2⟩
  | ol =>
    obtain ⟨a, vs, ds, rfl, rfl, rfl, e, l⟩ := h
    exact ⟨a, vs, ds, rfl, rfl, rfl, hf a (List.mem_singleton.mpr rfl) _ e, RepL.move k g _ _ l⟩
  | ox =>
    rcases h with ⟨a, vs, ds, rfl, rfl, rfl, e, l⟩ | ⟨h1, h2, h3⟩
    · exact .inl ⟨a, vs, ds, rfl, rfl, rfl, hf a (List.mem_singleton.mpr rfl) _ e, RepL.move k g _ _ l⟩
    · exact .inr ⟨h1, h2, Rep.move k g _ _ h3⟩
  | od =>
    obtain ⟨a, vs, ds, rfl, rfl, rfl, e, l⟩ := h
    exact ⟨a, vs, ds, rfl, rfl, rfl, hf a (List.mem_singleton.mpr rfl) _ e, RepD.move k g _ _ l⟩
  | oh =>
    obtain ⟨a, vs, ds, rfl, rfl, rfl, e, l⟩ := h
    exact ⟨a, vs, ds, rfl, rfl, rfl, hf a (List.mem_singleton.mpr rfl) _ e, RepH.move k g _ _ l⟩
  | oll =>
    obtain ⟨a, bs, dss, rfl, rfl, rfl, nd, e, hl, l⟩ := h
    refine ⟨a, bs, dss, rfl, rfl, rfl, nd, hf a List.mem_cons_self _ e, hl, fun i b ds h1 h2 => ?_⟩
    obtain ⟨vs, h3, h4⟩ := l i b ds h1 h2
    exact ⟨vs, hf b (List.mem_cons_of_mem _ (List.mem_of_getElem? h1)) _ h3, RepL.move k g _ _ h4⟩
theorem RepM.dom (h : RepM K O H md d v fp) : ∀ a ∈ fp, H a ≠ none := by
  cases md with
  | dat => rw [h.1]; intro a ha; cases ha
  | ol =>
    obtain ⟨a, vs, ds, rfl, rfl, rfl, e, l⟩ := h
    intro b hb
    rw [List.mem_singleton.mp hb, e]
    intro z; cases z
  | ox =>
    rcases h with ⟨a, vs, ds, rfl, rfl, rfl, e, l⟩ | ⟨h1, h2, h3⟩
    · intro b hb
      rw [List.mem_singleton.mp hb, e]
      intro z; cases z
    · rw [h2]; intro a ha; cases ha
  | od =>
    obtain ⟨a, vs, ds, rfl, rfl, rfl, e, l⟩ := h
    intro b hb
    rw [List.mem_singleton.mp hb, e]
    intro z; cases z
  | oh =>
    obtain ⟨a, vs, ds, rfl, rfl, rfl, e, l⟩ := h
    intro b hb
    rw [List.mem_singleton.mp hb, e]
    intro z; cases z
  | oll =>
    obtain ⟨a, bs, dss, rfl, rfl, rfl, nd, e, hl, l⟩ := h
    intro b hb
    rcases List.mem_cons.mp hb with z | z
    · rw [z, e]; intro z; cases z
    · obtain ⟨i, hi⟩ := List.mem_iff_getElem?.mp z
      have hlt : i < bs.length := (List.getElem?_eq_some_iff.mp hi).1
      obtain ⟨vs, h3, _⟩ := l i b _ hi (List.getElem?_eq_getElem (by omega))
      rw [h3]; intro z; cases z
theorem RepM.nodup (h : RepM K O H md d v fp) : fp.Nodup := by
  cases md with
  | dat => rw [h.1]; exact List.nodup_nil
  | ol =>
    obtain ⟨a, vs, ds, rfl, rfl, rfl, e, l⟩ := h
    simp
  | ox =>
    rcases h with ⟨a, vs, ds, rfl, rfl, rfl, e, l⟩ | ⟨h1, h2, h3⟩
    · simp
    · rw [h2]; exact List.nodup_nil
  | od =>
    obtain ⟨a, vs, ds, rfl, rfl, rfl, e, l⟩ := h
    simp
  | oh =>
    obtain ⟨a, vs, ds, rfl, rfl, rfl, e, l⟩ := h
    simp
  | oll =>
    obtain ⟨a, bs, dss, rfl, rfl, rfl, nd, e, hl, l⟩ := h
    exact nd
end

/-! ### the slots -/
abbrev Fp := Nat → List Addr
def Own (F : Fp) (P : Addr → Prop) : Addr → Prop := fun a => P a ∨ ∃ i, a ∈ F i
structure RepE (K : PySem.W.Frag) (G : Nat → Md) (H : Hp) (σ : L2.St) (ε : Sl) (F : Fp) (P : Addr → Prop) : Prop where
  len : ε.length = σ.length
  val : ∀ (i : Nat) (d : D), ε[i]? = some (some d) → ∃ v, σ[i]? = some (some v) ∧ RepM K (Own F P) H (G i) d v (F i)
  non : ∀ i : Nat, (∀ d, ε[i]? ≠ some (some d)) → F i = []
  sep : ∀ (i j : Nat) (a : Addr), a ∈ F i → a ∈ F j → i = j
  out : ∀ (i : Nat) (a : Addr), a ∈ F i → ¬ P a
  dom : ∀ a, Own F P a → H a ≠ none
/-- a step: only what the slots own may have changed; what they own now is old or new -/
structure Fr (F : Fp) (H : Hp) (F' : Fp) (H' : Hp) : Prop where
  keep : ∀ a o, H a = some o → (∀ i, a ∉ F i) → H' a = some o
  grow : ∀ (i : Nat) (a : Addr), a ∈ F' i → (∃ j, a ∈ F j) ∨ H a = none
  live : ∀ a, H a ≠ none → H' a ≠ none
section
variable {K : PySem.W.Frag} {G : Nat → Md} {H H' H'' : Hp} {σ σ' : L2.St} {ε ε' : Sl} {F F' F'' : Fp} {P P' : Addr → Prop}
theorem Fr.refl : Fr F H F H := ⟨fun _ _ h _ => h, fun i a h => .inl ⟨i, h⟩, fun _ h => h⟩
theorem Fr.trans (x : Fr F H F' H') (y : Fr F' H' F'' H'') : Fr F H F'' H'' := by
  refine ⟨fun a o h n => y.keep a o (x.keep a o h n) fun i hi => ?_, fun i a h => ?_, fun a h => y.live a (x.live a h)⟩
  · rcases x.grow i a hi with ⟨j, hj⟩ | hn
    · exact n j hj
    · rw [hn] at h; cases h
  · rcases y.grow i a h with ⟨j, hj⟩ | hn
    · exact x.grow j a hj
    · by_cases q : ∃ j, a ∈ F j
      · exact .inl q
      · refine .inr ?_
        cases e : H a with
        | none => rfl
        | some o =>
          rw [x.keep a o e fun i hi => q ⟨i, hi⟩] at hn
          cases hn
theorem Fr.keeps (x : Fr F H F' H') : Keeps (Own F P) H H' := fun a o h n => x.keep a o h fun i hi => n (.inr ⟨i, hi⟩)
theorem Fr.grows (x : Fr F H F' H') : Grows (Own F P) (Own F' P) H := fun a z => by
  rcases z with z | ⟨i, z⟩
  · exact .inl (.inl z)
  · rcases x.grow i a z with ⟨j, hj⟩ | hn
    · exact .inl (.inr ⟨j, hj⟩)
    · exact .inr hn
theorem Fr.rep (x : Fr F H F' H') {d : D} {v : V} (h : Rep K (Own F P) H d v) : Rep K (Own F' P) H' d v := Rep.move x.keeps x.grows d v h
theorem Fr.repL (x : Fr F H F' H') {d : List D} {v : List V} (h : RepL K (Own F P) H d v) : RepL K (Own F' P) H' d v := RepL.move x.keeps x.grows d v h
/-- a step by which the heap only grows -/
theorem Fr.ext (h : ∀ a o, H a = some o → H' a = some o) : Fr F H F H' := ⟨fun a o e _ => h a o e, fun i a h => .inl ⟨i, h⟩, fun a n e => by
  cases q : H a with
  | none => exact n q
  | some o => rw [h a o q] at e; cases e⟩
theorem Fr.back (x : Fr F H F' H') {a : Addr} (hn : H' a = none) : H a = none := by
  cases e : H a with
  | none => rfl
  | some o => exact absurd hn (x.live a (by rw [e]; intro z; cases z))
theorem same_upd {p : Addr} {o : HO} (h : H p = none) : ∀ a u, H a = some u → upd H p o a = some u := fun a u e => by
  rw [upd_ne (ne_of_none e h)]
  exact e
/-- the heap grows; what is kept apart may grow by new things -/
theorem RepE.ext (R : RepE K G H σ ε F P) (h : ∀ a o, H a = some o → H' a = some o) (hp : ∀ a, P' a → P a ∨ (H a = none ∧ H' a ≠ none)) : RepE K G H' σ ε F P' := by
  have g : Grows (Own F P) (Own F P') H := fun a z => by
    rcases z with z | z
    · rcases hp a z with z | z
      · exact .inl (.inl z)
      · exact .inr z.1
    · exact .inl (.inr z)
  refine ⟨R.len, fun i d e => ?_, R.non, R.sep, fun i a hi hP => ?_, fun a z => ?_⟩
  · obtain ⟨v, hv, r⟩ := R.val i d e
    exact ⟨v, hv, r.move (fun a o h' _ => h a o h') g fun a _ o h' => h a o h'⟩
  · rcases hp a hP with q | ⟨q, _⟩
    · exact R.out i a hi q
    · exact R.dom a (.inr ⟨i, hi⟩) q
  · rcases z with z | ⟨i, z⟩
    · rcases hp a z with q | ⟨_, q⟩
      · intro e
        cases e1 : H a with
        | none => exact R.dom a (.inl q) e1
        | some o => rw [h a o e1] at e; cases e
      · exact q
    · intro e
      cases e1 : H a with
      | none => exact R.dom a (.inr ⟨i, z⟩) e1
      | some o => rw [h a o e1] at e; cases e
theorem RepE.grow (R : RepE K G H σ ε F P) (h : ∀ a o, H a = some o → H' a = some o) : RepE K G H' σ ε F P := R.ext h fun a z => .inl z
/-- a slot that holds data -/
theorem RepE.dat (R : RepE K G H σ ε F P) {i : Nat} {d : D} (e : ε[i]? = some (some d)) (hG : G i = .dat) : ∃ v, σ[i]? = some (some v) ∧ Rep K (Own F P) H d v := by
  obtain ⟨v, hv, r⟩ := R.val i d e
  rw [hG] at r
  exact ⟨v, hv, r.2⟩
end
end Lk

end
section
set_option maxRecDepth 100000
set_option maxHeartbeats 4000000
/-! Lk2: the readings, and the rules for expressions. -/
namespace Lk
open PySem PySem.Spec PyProof.Rows L2 Cr
/-! ### the readings -/
structure Cc where
  K : PySem.W.Frag
  G : Nat → Md
  W : Nat → L2.St → Hp → Prop
  pin : Nat → Bool
  rm : Md
def Okk {α : Type} (C : Cc) (σ : L2.St) (H : Hp) (F : Fp) (P : Addr → Prop) (o : Out α) (Q : α → Sl → Hp → Fp → Prop) : Prop :=
  match o with
  | .ok a ε' => ∀ H' F', RepE C.K C.G H' σ ε' F' P → Fr F H F' H' → Q a ε' H' F'
  | .exn c ε' => ∀ H' F', RepE C.K C.G H' σ ε' F' P → Fr F H F' H' → C.W c σ H'
  | .bad => False
section
variable {C : Cc} {σ : L2.St} {H H1 : Hp} {F F1 : Fp} {P : Addr → Prop} {ε ε1 : Sl} {α β : Type}
theorem Okk.step {o : Out α} {Q : α → Sl → Hp → Fp → Prop} (h : Okk C σ H F P o Q) (x : Fr F H F1 H1) : Okk C σ H1 F1 P o Q := by
  cases o with
  | ok a e => exact fun H' F' R y => h H' F' R (x.trans y)
  | exn c e => exact fun H' F' R y => h H' F' R (x.trans y)
  | bad => exact h
theorem Okk.imp {o : Out α} {Q Q' : α → Sl → Hp → Fp → Prop} (h : Okk C σ H F P o Q) (i : ∀ a e H' F', RepE C.K C.G H' σ e F' P → Fr F H F' H' → Q a e H' F' → Q' a e H' F') : Okk C σ H F P o Q' := by
  cases o with
  | ok a e => exact fun H' F' R y => i a e H' F' R y (h H' F' R y)
  | exn c e => exact h
  | bad => exact h
theorem Okk.bd {m : M α} {f : α → M β} {Q : β → Sl → Hp → Fp → Prop} (h : Okk C σ H F P (Cr.bd m f ε) Q) : Okk C σ H F P (m ε) fun a ε1 H1 F1 => Okk C σ H1 F1 P (f a ε1) Q := by
  unfold Cr.bd at h
  cases e : m ε with
  | ok a e1 =>
    rw [e] at h
    exact fun H' F' R y => Okk.step h y
  | exn c e1 =>
    rw [e] at h
    exact h
  | bad =>
    rw [e] at h
    exact h
theorem Okk.here {a : α} {Q : α → Sl → Hp → Fp → Prop} (h : Okk C σ H F P (.ok a ε) Q) (R : RepE C.K C.G H σ ε F P) : Q a ε H F := h H F R Fr.refl
theorem Okk.opt {o : Option α} {Q : α → Sl → Hp → Fp → Prop} (h : Okk C σ H F P (Cr.opt o ε) Q) : ∃ a, o = some a ∧ ∀ H' F', RepE C.K C.G H' σ ε F' P → Fr F H F' H' → Q a ε H' F' := by
  cases o with
  | none => exact h.elim
  | some a => exact ⟨a, rfl, h⟩
theorem rd_ok {i : Nat} {d : D} {e e' : Sl} (h : rd i e = .ok d e') : e[i]? = some (some d) ∧ e' = e := by
  unfold rd at h
  split at h
  · rename_i d' q
    injection h with h1 h2
    subst h1; subst h2
    exact ⟨q, rfl⟩
  · cases h
theorem Okk.rd {i : Nat} {Q : D → Sl → Hp → Fp → Prop} (h : Okk C σ H F P (Cr.rd i ε) Q) : ∃ d, ε[i]? = some (some d) ∧ ∀ H' F', RepE C.K C.G H' σ ε F' P → Fr F H F' H' → Q d ε H' F' := by
  cases e : Cr.rd i ε with
  | ok d e' =>
    rw [e] at h
    obtain ⟨q, rfl⟩ := rd_ok e
    exact ⟨d, q, h⟩
  | exn c e' =>
    unfold Cr.rd at e
    split at e <;> cases e
  | bad => rw [e] at h; exact h.elim
end
/-- a wish about an outcome that stands through steps -/
structure Stp (C : Cc) (σ : L2.St) (P : Addr → Prop) {β : Type} (Φ : Hp → Fp → Out β → Prop) : Prop where
  step : ∀ H F o H1 F1, Φ H F o → Fr F H F1 H1 → Φ H1 F1 o
  exn : ∀ H F c ε, Φ H F (.exn c ε) → ∀ H' F', RepE C.K C.G H' σ ε F' P → Fr F H F' H' → C.W c σ H'
  bad : ∀ H F, ¬ Φ H F .bad
theorem Okk.stp {C : Cc} {σ : L2.St} {P : Addr → Prop} {β : Type} {Q : β → Sl → Hp → Fp → Prop} : Stp C σ P (fun H F o => Okk C σ H F P o Q) := ⟨fun _ _ _ _ _ h x => h.step x, fun _ _ _ _ h => h, fun _ _ h => h⟩
theorem Stp.bd {C : Cc} {σ : L2.St} {P : Addr → Prop} {α β : Type} {Φ : Hp → Fp → Out β → Prop} (S : Stp C σ P Φ) {m : M α} {f : α → M β} {H : Hp} {F : Fp} {ε : Sl} (h : Φ H F (Cr.bd m f ε)) :
    Okk C σ H F P (m ε) fun a ε1 H1 F1 => Φ H1 F1 (f a ε1) := by
  unfold Cr.bd at h
  cases e : m ε with
  | ok a e1 =>
    rw [e] at h
    exact fun H' F' R y => S.step _ _ _ _ _ h y
  | exn c e1 =>
    rw [e] at h
    exact S.exn _ _ _ _ h
  | bad =>
    rw [e] at h
    exact S.bad _ _ h
/-- the wish about what a slot may own -/
def OkF (C : Cc) (md : Md) (σ : L2.St) (Q : VK) (P : Addr → Prop) (H : Hp) (F : Fp) (o : Out D) : Prop :=
  match o with
  | .ok d ε' => ∀ v H' F' fp, RepE C.K C.G H' σ ε' F' (fun a => P a ∨ a ∈ fp) → Fr F H F' H' → (∀ a ∈ fp, H a = none) → RepM C.K (Own F' (fun a => P a ∨ a ∈ fp)) H' md d v fp → Q v H'
  | .exn c ε' => ∀ H' F', RepE C.K C.G H' σ ε' F' P → Fr F H F' H' → C.W c σ H'
  | .bad => False
theorem OkF.stp {C : Cc} {md : Md} {σ : L2.St} {Q : VK} {P : Addr → Prop} : Stp C σ P (OkF C md σ Q P) := by
  refine ⟨fun H F o H1 F1 h x => ?_, fun _ _ _ _ h => h, fun _ _ h => h⟩
  cases o with
  | ok d e => exact fun v H' F' fp R y n r => h v H' F' fp R (x.trans y) (fun a ha => x.back (n a ha)) r
  | exn c e => exact fun H' F' R y => h H' F' R (x.trans y)
  | bad => exact h
/-- an expression whose value is data -/
def tE (C : Cc) (m : M D) : TE := fun σ H Q => ∃ ε F P, RepE C.K C.G H σ ε F P ∧ Okk C σ H F P (m ε) fun d _ H' F' => ∀ v, Rep C.K (Own F' P) H' d v → Q v H'
/-- a test -/
def tT (C : Cc) (m : M Bool) : TT := fun σ H Q => ∃ ε F P, RepE C.K C.G H σ ε F P ∧ Okk C σ H F P (m ε) fun b _ H' _ => Q b H'
/-- an expression whose value is a new list (or what else a slot may own) -/
def tF (C : Cc) (md : Md) (m : M D) : TE := fun σ H Q => ∃ ε F P, RepE C.K C.G H σ ε F P ∧ OkF C md σ Q P H F (m ε)
def tO (C : Cc) : Opd → TE
  | .d m => tE C m
  | .o i => tVar i
def tAs (C : Cc) : List Opd → TA
  | [] => tNil
  | o :: r => tCons (tO C o) (tAs C r)
section
variable {X : Cx} {e : Expr} {st : Stmt} {sts : List Stmt} {es : List Expr}
theorem PE.mono {t t' : TE} (h : PE X e t) (m : ∀ σ H Q, t' σ H Q → t σ H Q) : PE X e t' := ⟨fun pins s σ H Q I q => h.run pins s σ H Q I (m _ _ _ q)⟩
theorem PT.mono {t t' : TT} (h : PT X e t) (m : ∀ σ H Q, t' σ H Q → t σ H Q) : PT X e t' := ⟨fun pins s σ H Q I q => h.run pins s σ H Q I (m _ _ _ q)⟩
theorem PW.mono {t t' : TT} (h : PW X e t) (m : ∀ σ H Q, t' σ H Q → t σ H Q) : PW X e t' := ⟨fun wh pins s σ H Q I q => h.run wh pins s σ H Q I (m _ _ _ q)⟩
theorem PA.mono {t t' : TA} (h : PA X es t) (m : ∀ σ H Q, t' σ H Q → t σ H Q) : PA X es t' := ⟨fun pos pins s σ H Q I q => h.run pos pins s σ H Q I (m _ _ _ q)⟩
theorem PS.mono {t t' : TS} (h : PS X st t) (m : ∀ D σ H, t' D σ H → t D σ H) : PS X st t' := ⟨fun pins s σ H D I q => h.run pins s σ H D I (m _ _ _ q)⟩
theorem PSs.mono {t t' : TS} (h : PSs X sts t) (m : ∀ D σ H, t' D σ H → t D σ H) : PSs X sts t' := ⟨fun pins s σ H D I q => h.run pins s σ H D I (m _ _ _ q)⟩
end
/-! ### what an operand's value is read as: its root may be owned -/
def RepW (K : PySem.W.Frag) (O : Addr → Prop) (H : Hp) : D → V → Prop
  | .lst ds, v => ∃ a vs, v = .ref a ∧ SqL K H a vs ∧ RepL K O H ds vs
  | .non, v => Rep K O H .non v
  | .bl b, v => Rep K O H (.bl b) v
  | .int i, v => Rep K O H (.int i) v
  | .str s, v => Rep K O H (.str s) v
  | .tup ds, v => Rep K O H (.tup ds) v
  | .dct k, v => ∃ a us, v = .ref a ∧ H a = some (.dK us) ∧ RepD K O H k us
  | .dht k, v => ∃ a us, v = .ref a ∧ H a = some (HdO a us) ∧ RepH K O H k us
  | .own _, v => ∃ a, v = .ref a
  | .ins _ _, v => ∃ a, v = .ref a
inductive RepWL (K : PySem.W.Frag) (O : Addr → Prop) (H : Hp) : List D → List V → Prop
  | nil : RepWL K O H [] []
  | cons {d : D} {v : V} {ds : List D} {vs : List V} : RepW K O H d v → RepWL K O H ds vs → RepWL K O H (d :: ds) (v :: vs)
section
variable {K : PySem.W.Frag} {O O' : Addr → Prop} {H H' : Hp}
theorem Rep.w : ∀ {d : D} {v : V}, Rep K O H d v → RepW K O H d v
  | .non, _, h => h
  | .bl _, _, h => h
  | .int _, _, h => h
  | .str _, _, h => h
  | .tup _, _, h => h
  | .lst _, _, h => by
    obtain ⟨a, vs, e, t, l⟩ := h
    exact ⟨a, vs, e, t.sq, l⟩
  | .dct _, _, h => by
    obtain ⟨a, us, e, n, t, l⟩ := h
    exact ⟨a, us, e, t, l⟩
  | .dht _, _, h => by
    obtain ⟨a, us, e, n, t, l⟩ := h
    exact ⟨a, us, e, t, l⟩
  | .own _, _, h => h.elim
  | .ins _ _, _, h => h.elim
theorem RepM.w {md : Md} {d : D} {v : V} {fp : List Addr} (h : RepM K O H md d v fp) : RepW K O H d v := by
  cases md with
  | dat => exact h.2.w
  | ol =>
    obtain ⟨a, vs, ds, rfl, rfl, rfl, e, l⟩ := h
    exact ⟨a, vs, rfl, SqL.of e, l⟩
  | ox =>
    rcases h with ⟨a, vs, ds, rfl, rfl, rfl, e, l⟩ | ⟨h1, h2, h3⟩
    · exact ⟨a, vs, rfl, SqL.of e, l⟩
    · exact h3.w
  | od =>
    obtain ⟨a, vs, ds, rfl, rfl, rfl, e, l⟩ := h
    exact ⟨a, vs, rfl, e, l⟩
  | oh =>
    obtain ⟨a, vs, ds, rfl, rfl, rfl, e, l⟩ := h
    exact ⟨a, vs, rfl, e, l⟩
  | oll =>
    obtain ⟨a, bs, dss, rfl, rfl, rfl, nd, e, hl, l⟩ := h
    exact ⟨a, rfl⟩
end
section
variable {C : Cc} {σ : L2.St} {H H1 : Hp} {F F1 : Fp} {P : Addr → Prop} {ε ε1 : Sl} {α β : Type}
theorem RepE.slot (R : RepE C.K C.G H σ ε F P) {i : Nat} {d : D} {v : V} (e : ε[i]? = some (some d)) (hv : σ[i]? = some (some v)) : RepW C.K (Own F P) H d v := by
  obtain ⟨u, hu, r⟩ := R.val i d e
  rw [hv] at hu
  cases hu
  exact r.w
/-- the first of two: data -/
theorem gE_bd {m : M D} {f : D → M β} {Φ : Hp → Fp → Out β → Prop} (S : Stp C σ P Φ) (R : RepE C.K C.G H σ ε F P) (h : Φ H F (Cr.bd m f ε)) :
    tE C m σ H fun v H1 => ∃ d ε1 F1, RepE C.K C.G H1 σ ε1 F1 P ∧ Fr F H F1 H1 ∧ Rep C.K (Own F1 P) H1 d v ∧ Φ H1 F1 (f d ε1) :=
  ⟨ε, F, P, R, (S.bd h).imp fun d e H' F' R' y q v r => ⟨d, e, F', R', y, r, q⟩⟩
theorem gT_bd {m : M Bool} {f : Bool → M β} {Φ : Hp → Fp → Out β → Prop} (S : Stp C σ P Φ) (R : RepE C.K C.G H σ ε F P) (h : Φ H F (Cr.bd m f ε)) :
    tT C m σ H fun b H1 => ∃ ε1 F1, RepE C.K C.G H1 σ ε1 F1 P ∧ Fr F H F1 H1 ∧ Φ H1 F1 (f b ε1) :=
  ⟨ε, F, P, R, (S.bd h).imp fun b e H' F' R' y q => ⟨e, F', R', y, q⟩⟩
theorem tE_bd {m : M D} {f : D → M β} {Qf : β → Sl → Hp → Fp → Prop} (R : RepE C.K C.G H σ ε F P) (h : Okk C σ H F P (Cr.bd m f ε) Qf) :
    tE C m σ H fun v H1 => ∃ d ε1 F1, RepE C.K C.G H1 σ ε1 F1 P ∧ Fr F H F1 H1 ∧ Rep C.K (Own F1 P) H1 d v ∧ Okk C σ H1 F1 P (f d ε1) Qf := gE_bd Okk.stp R h
theorem tT_bd {m : M Bool} {f : Bool → M β} {Qf : β → Sl → Hp → Fp → Prop} (R : RepE C.K C.G H σ ε F P) (h : Okk C σ H F P (Cr.bd m f ε) Qf) :
    tT C m σ H fun b H1 => ∃ ε1 F1, RepE C.K C.G H1 σ ε1 F1 P ∧ Fr F H F1 H1 ∧ Okk C σ H1 F1 P (f b ε1) Qf := gT_bd Okk.stp R h
/-- an end: the value as it stands, the heap perhaps grown -/
theorem fin {o : Option D} {Q : VK} (R : RepE C.K C.G H σ ε F P) (h : Okk C σ H F P (Cr.opt o ε) fun d _ H' F' => ∀ v, Rep C.K (Own F' P) H' d v → Q v H') :
    ∃ d, o = some d ∧ ∀ v H', (∀ a u, H a = some u → H' a = some u) → Rep C.K (Own F P) H' d v → Q v H' := by
  obtain ⟨d, e, q⟩ := h.opt
  exact ⟨d, e, fun v H' x r => q H' F (R.grow x) (Fr.ext x) v r⟩
/-- both operands -/
theorem two {g : D → D → Option D} {oa ob : Opd} {Q : VK} (h : tE C (bin g oa ob) σ H Q) :
    tO C oa σ H fun x H1 => tO C ob σ H1 fun y H2 => ∃ (O : Addr → Prop) (d1 d2 d : D), (∀ a, O a → H2 a ≠ none) ∧ RepW C.K O H2 d1 x ∧ RepW C.K O H2 d2 y ∧ g d1 d2 = some d ∧
      ∀ v H', (∀ a u, H2 a = some u → H' a = some u) → Rep C.K O H' d v → Q v H' := by
  obtain ⟨ε, F, P, R, h⟩ := h
  cases oa with
  | d ma =>
    cases ob with
    | d mb =>
      obtain ⟨ε0, F0, P0, R0, h0⟩ := tE_bd R h
      refine ⟨ε0, F0, P0, R0, h0.imp fun d1 e1 H1 F1 R1 y1 q v r => ?_⟩
      obtain ⟨d1', ε1, F1', R1', y1', r1, h1⟩ := q v r
      obtain ⟨ε2, F2, P2, R2, h2⟩ := tE_bd R1' h1
      refine ⟨ε2, F2, P2, R2, h2.imp fun d2 e2 H2 F2 R2 y2 q v r => ?_⟩
      obtain ⟨d2', ε2', F2', R2', y2', r2, h2'⟩ := q v r
      obtain ⟨d, ed, q'⟩ := fin R2' h2'
      exact ⟨Own F2' P, d1', d2', d, R2'.dom, (y2'.rep r1).w, r2.w, ed, q'⟩
    | o j =>
      obtain ⟨ε0, F0, P0, R0, h0⟩ := tE_bd R h
      refine ⟨ε0, F0, P0, R0, h0.imp fun d1 e1 H1 F1 R1 y1 q v r => ?_⟩
      obtain ⟨d1', ε1, F1', R1', y1', r1, h1⟩ := q v r
      obtain ⟨d2, e2, h2⟩ := h1.bd.rd
      obtain ⟨v2, hv2, r2⟩ := R1'.val j d2 e2
      obtain ⟨d, ed, q'⟩ := fin R1' (h2 _ _ R1' Fr.refl)
      exact ⟨v2, hv2, Own F1' P, d1', d2, d, R1'.dom, r1.w, r2.w, ed, q'⟩
  | o i =>
    cases ob with
    | d mb =>
      obtain ⟨d0, e0, h0⟩ := h.bd.rd
      obtain ⟨v0, hv0, r0⟩ := R.val i d0 e0
      refine ⟨v0, hv0, ?_⟩
      obtain ⟨ε2, F2, P2, R2, h2⟩ := tE_bd R (h0 _ _ R Fr.refl)
      refine ⟨ε2, F2, P2, R2, h2.imp fun d2 e2 H2 F2 R2 y2 q v r => ?_⟩
      obtain ⟨d2', ε2', F2', R2', y2', r2, h2'⟩ := q v r
      obtain ⟨d1, e1, h3⟩ := h2'.bd.rd
      obtain ⟨d, ed, q'⟩ := fin R2' (h3 _ _ R2' Fr.refl)
      exact ⟨Own F2' P, d1, d2', d, R2'.dom, R2'.slot e1 hv0, r2.w, ed, q'⟩
    | o j =>
      obtain ⟨d1, e1, h1⟩ := h.bd.rd
      obtain ⟨v1, hv1, r1⟩ := R.val i d1 e1
      obtain ⟨d2, e2, h2⟩ := (h1 _ _ R Fr.refl).bd.rd
      obtain ⟨v2, hv2, r2⟩ := R.val j d2 e2
      obtain ⟨d, ed, q'⟩ := fin R (h2 _ _ R Fr.refl)
      exact ⟨v1, hv1, v2, hv2, Own F P, d1, d2, d, R.dom, r1.w, r2.w, ed, q'⟩
theorem one {g : D → Option D} {oa : Opd} {Q : VK} (h : tE C (un g oa) σ H Q) :
    tO C oa σ H fun x H1 => ∃ (O : Addr → Prop) (d1 d : D), (∀ a, O a → H1 a ≠ none) ∧ RepW C.K O H1 d1 x ∧ g d1 = some d ∧ ∀ v H', (∀ a u, H1 a = some u → H' a = some u) → Rep C.K O H' d v → Q v H' := by
  obtain ⟨ε, F, P, R, h⟩ := h
  cases oa with
  | d ma =>
    obtain ⟨ε0, F0, P0, R0, h0⟩ := tE_bd R h
    refine ⟨ε0, F0, P0, R0, h0.imp fun d1 e1 H1 F1 R1 y1 q v r => ?_⟩
    obtain ⟨d1', ε1, F1', R1', y1', r1, h1⟩ := q v r
    obtain ⟨d, ed, q'⟩ := fin R1' h1
    exact ⟨Own F1' P, d1', d, R1'.dom, r1.w, ed, q'⟩
  | o i =>
    obtain ⟨d1, e1, h1⟩ := h.bd.rd
    obtain ⟨v1, hv1, r1⟩ := R.val i d1 e1
    obtain ⟨d, ed, q'⟩ := fin R (h1 _ _ R Fr.refl)
    exact ⟨v1, hv1, Own F P, d1, d, R.dom, r1.w, ed, q'⟩
end
/-! ### operators: what they do to data -/
/-- the operation r does on values what g does on data -/
def OpS (K : PySem.W.Frag) (r : R2) (g : D → D → Option D) : Prop := ∀ (O : Addr → Prop) (H : Hp) (x y : V) (d1 d2 d : D) (Q : VK), (∀ a, O a → H a ≠ none) → RepW K O H d1 x → RepW K O H d2 y → g d1 d2 = some d →
  (∀ v H', (∀ a u, H a = some u → H' a = some u) → Rep K O H' d v → Q v H') → r x y H Q
def UnS (K : PySem.W.Frag) (r : V → Hp → VK → Prop) (g : D → Option D) : Prop := ∀ (O : Addr → Prop) (H : Hp) (x : V) (d1 d : D) (Q : VK), (∀ a, O a → H a ≠ none) → RepW K O H d1 x → g d1 = some d →
  (∀ v H', (∀ a u, H a = some u → H' a = some u) → Rep K O H' d v → Q v H') → r x H Q
section
variable {X : Cx} {C : Cc} {a b c : Expr} {pos : Pos} {r r' : R2} {g g' : D → D → Option D} {oa ob : Opd} {m ma mb mc : M D} {ta tb tc : M Bool} {σ : L2.St} {H : Hp}
theorem tE.imp {Q Q' : VK} (h : tE C m σ H Q) (i : ∀ v H', Q v H' → Q' v H') : tE C m σ H Q' := by
  obtain ⟨ε, F, P, R, h⟩ := h
  exact ⟨ε, F, P, R, h.imp fun d e H' F' R' y q v r => i v H' (q v r)⟩
theorem tO.imp {Q Q' : VK} (h : tO C oa σ H Q) (i : ∀ v H', Q v H' → Q' v H') : tO C oa σ H Q' := by
  cases oa with
  | d m => exact tE.imp h i
  | o j =>
    obtain ⟨v, e, q⟩ := h
    exact ⟨v, e, i v H q⟩
theorem op_run (hs : OpS C.K r g) {Q : VK} (h : tE C (bin g oa ob) σ H Q) : tOp r (tO C oa) (tO C ob) σ H Q :=
  tO.imp (two h) fun x H1 q => tO.imp q fun y H2 ⟨O, d1, d2, d, dm, r1, r2, e, q⟩ => hs O H2 x y d1 d2 d Q dm r1 r2 e q
theorem re_bin {op : Operator} (ho : OpR X (binaryOp op) r) (hs : OpS C.K r g) (ha : PE X a (tO C oa)) (hb : PE X b (tO C ob)) : PE X (.BinOp a op b pos) (tE C (bin g oa ob)) :=
  PE.mono (pe_op ho ha hb) fun σ H Q h => op_run hs h
theorem re_cmp {op : CmpOp} (ho : OpR X (compareOp op) r) (hs : OpS C.K r g) (ha : PE X a (tO C oa)) (hb : PE X b (tO C ob)) (hm : behindInMarks op b = false) : PE X (.Compare a [op] [b] pos) (tE C (bin g oa ob)) :=
  PE.mono (pe_cmpR ho ha hb hm) fun σ H Q h => op_run hs h
theorem re_ix (ho : IxR X r) (hs : OpS C.K r g) (ha : PE X a (tO C oa)) (hb : PE X b (tO C ob)) (hp : PlainIx b) : PE X (.Subscript a b pos) (tE C (bin g oa ob)) :=
  PE.mono (pe_ix ho ha hb hp) fun σ H Q h => op_run hs h
theorem re_un {op : UnaryOp} {r : V → Hp → VK → Prop} {g : D → Option D} (ho : UnR X (unaryOp op) r) (hs : UnS C.K r g) (ha : PE X a (tO C oa)) : PE X (.UnaryOp op a pos) (tE C (un g oa)) :=
  PE.mono (pe_un ho ha) fun σ H Q h => tO.imp (one h) fun x H1 ⟨O, d1, d, dm, r1, e, q⟩ => hs O H1 x d1 d Q dm r1 e q
/-- a test of a value that is a truth value -/
theorem test_run {R : V → Hp → Prop} {Q : Bool → Hp → Prop} (h : tT C (tstB m) σ H Q) : tE C m σ H fun v H1 => ∃ k, v = .bl k ∧ Q k H1 := by
  obtain ⟨ε, F, P, R, h⟩ := h
  refine tE.imp (tE_bd R h) fun v H1 ⟨d, ε1, F1, R1, y1, r1, h1⟩ => ?_
  cases d with
  | bl k => exact ⟨k, r1, Okk.here h1 R1⟩
  | _ => exact h1.elim
theorem rt_cmp {op : CmpOp} (ho : OpR X (compareOp op) r) (hs : OpS C.K r g) (ha : PE X a (tO C oa)) (hb : PE X b (tO C ob)) (hm : behindInMarks op b = false) : PT X (.Compare a [op] [b] pos) (tT C (tstB (bin g oa ob))) :=
  PT.mono (pt_cmpR ho ha hb hm) fun σ H Q h => op_run hs (test_run (R := fun _ _ => True) h)
theorem rt_val {e : Expr} (h : PE X e (tE C m)) (he : ∀ whole, isTrue e X.env whole = (do let v ← whole; standAt e.pos; holding [v] (truthy v)) := by intro _; rfl) : PT X e (tT C (tstB m)) :=
  PT.mono (pt_val h he) fun σ H Q h => test_run (R := fun _ _ => True) h
theorem tT.imp {t : M Bool} {Q Q' : Bool → Hp → Prop} (h : tT C t σ H Q) (i : ∀ v H', Q v H' → Q' v H') : tT C t σ H Q' := by
  obtain ⟨ε, F, P, R, h⟩ := h
  exact ⟨ε, F, P, R, h.imp fun d e H' F' R' y q => i d H' q⟩
theorem rw_and1 (ha : PT X a (tT C ta)) : PW X (.BoolOp .And [a] pos) (tT C ta) := pw_and1 ha
theorem rw_or1 (ha : PT X a (tT C ta)) : PW X (.BoolOp .Or [a] pos) (tT C ta) := pw_or1 ha
theorem rw_and {rest : List Expr} (ha : PT X a (tT C ta)) (hb : PW X (.BoolOp .And (b :: rest) pos) (tT C tb)) : PW X (.BoolOp .And (a :: b :: rest) pos) (tT C (andT ta tb)) :=
  PW.mono (pw_and ha hb) fun σ H Q ⟨ε, F, P, R, h⟩ => tT.imp (tT_bd R h) fun k H1 ⟨ε1, F1, R1, y1, h1⟩ => by
    cases k with
    | true => exact iteT ⟨ε1, F1, P, R1, h1⟩
    | false => exact iteF (Okk.here h1 R1)
theorem rw_or {rest : List Expr} (ha : PT X a (tT C ta)) (hb : PW X (.BoolOp .Or (b :: rest) pos) (tT C tb)) : PW X (.BoolOp .Or (a :: b :: rest) pos) (tT C (orT ta tb)) :=
  PW.mono (pw_or ha hb) fun σ H Q ⟨ε, F, P, R, h⟩ => tT.imp (tT_bd R h) fun k H1 ⟨ε1, F1, R1, y1, h1⟩ => by
    cases k with
    | false => exact iteF ⟨ε1, F1, P, R1, h1⟩
    | true => exact iteT (Okk.here h1 R1)
theorem rt_not (ha : PT X a (tT C ta)) : PT X (.UnaryOp .Not a pos) (tT C (notT ta)) :=
  PT.mono (pt_not ha) fun σ H Q ⟨ε, F, P, R, h⟩ => tT.imp (tT_bd R h) fun k H1 ⟨ε1, F1, R1, y1, h1⟩ => Okk.here h1 R1
/-- and, or, not as values -/
theorem toB_run {β : Type} {d : D} {v : V} {f : Bool → M β} {F : Fp} {P : Addr → Prop} {ε : Sl} {Q : β → Sl → Hp → Fp → Prop} (R : RepE C.K C.G H σ ε F P) (r : Rep C.K (Own F P) H d v) (h : Okk C σ H F P (bd (toB d) f ε) Q) :
    ∃ k, v = .bl k ∧ Okk C σ H F P (f k ε) Q := by
  cases d with
  | bl k => exact ⟨k, r, h⟩
  | _ => exact h.elim
theorem re_and {rest : List Expr} (ha : PE X a (tE C ma)) (hb : PE X (.BoolOp .And (b :: rest) pos) (tE C mb)) : PE X (.BoolOp .And (a :: b :: rest) pos) (tE C (andV ma mb)) :=
  PE.mono (pe_and ha hb) fun σ H Q ⟨ε, F, P, R, h⟩ => tE.imp (tE_bd R h) fun v H1 ⟨d, ε1, F1, R1, y1, r1, h1⟩ => by
    obtain ⟨k, e, h2⟩ := toB_run R1 r1 h1
    refine ⟨k, e, ?_⟩
    cases k with
    | true => exact iteT ⟨ε1, F1, P, R1, h2⟩
    | false => exact iteF (Okk.here h2 R1 _ rfl)
theorem re_or {rest : List Expr} (ha : PE X a (tE C ma)) (hb : PE X (.BoolOp .Or (b :: rest) pos) (tE C mb)) : PE X (.BoolOp .Or (a :: b :: rest) pos) (tE C (orV ma mb)) :=
  PE.mono (pe_or ha hb) fun σ H Q ⟨ε, F, P, R, h⟩ => tE.imp (tE_bd R h) fun v H1 ⟨d, ε1, F1, R1, y1, r1, h1⟩ => by
    obtain ⟨k, e, h2⟩ := toB_run R1 r1 h1
    refine ⟨k, e, ?_⟩
    cases k with
    | false => exact iteF ⟨ε1, F1, P, R1, h2⟩
    | true => exact iteT (Okk.here h2 R1 _ rfl)
theorem re_not (ha : PE X a (tE C ma)) : PE X (.UnaryOp .Not a pos) (tE C (notV ma)) :=
  PE.mono (pe_not ha) fun σ H Q ⟨ε, F, P, R, h⟩ => tE.imp (tE_bd R h) fun v H1 ⟨d, ε1, F1, R1, y1, r1, h1⟩ => by
    obtain ⟨k, e, h2⟩ := toB_run R1 r1 h1
    exact ⟨k, e, Okk.here h2 R1 _ rfl⟩
theorem re_if {t : Expr} (ht : PT X t (tT C ta)) (ha : PE X a (tE C ma)) (hb : PE X b (tE C mb)) : PE X (.IfExp t a b pos) (tE C (ifE ta ma mb)) :=
  PE.mono (pe_ifExp ht ha hb) fun σ H Q ⟨ε, F, P, R, h⟩ => tT.imp (tT_bd R h) fun k H1 ⟨ε1, F1, R1, y1, h1⟩ => by
    cases k with
    | true => exact iteT ⟨ε1, F1, P, R1, h1⟩
    | false => exact iteF ⟨ε1, F1, P, R1, h1⟩
/-- names, constants -/
theorem re_var {i : Nat} {x : Str} {pos : Pos} (hG : C.G i = .dat) (h : PE X (.Name x pos) (tVar i)) : PE X (.Name x pos) (tE C (rd i)) :=
  PE.mono h fun σ H Q ⟨ε, F, P, R, h⟩ => by
    obtain ⟨d, e, q⟩ := h.rd
    obtain ⟨v, hv, r⟩ := R.dat e hG
    exact ⟨v, hv, q H F R Fr.refl v r⟩
theorem re_cst {e : Expr} {d : D} {v : V} (h : PE X e (tC v)) (hr : ∀ O H, Rep C.K O H d v) : PE X e (tE C (cst d)) :=
  PE.mono h fun σ H Q ⟨ε, F, P, R, h⟩ => Okk.here h R v (hr _ _)
theorem re_int {i : Int} {j pos} : PE X (.Constant (.int i) j pos) (tE C (cst (.int i))) := re_cst pe_int fun _ _ => rfl
theorem re_bl {b : Bool} {j pos} : PE X (.Constant (.bool b) j pos) (tE C (cst (.bl b))) := re_cst pe_bl fun _ _ => rfl
theorem re_non {j pos} : PE X (.Constant .none j pos) (tE C (cst .non)) := re_cst pe_non fun _ _ => rfl
theorem re_str {s : Str} {j pos} : PE X (.Constant (.str s) j pos) (tE C (cst (.str s))) := re_cst pe_str fun _ _ => rfl
end
end Lk

end
section
set_option maxRecDepth 100000
set_option maxHeartbeats 4000000
/-! Lk3: rows of operands, displays, calls. -/
namespace Lk
open PySem PySem.Spec PyProof.Rows L2 Cr
theorem bd_assoc {α β γ : Type} (m : M α) (f : α → M β) (g : β → M γ) : bd (bd m f) g = bd m fun x => bd (f x) g := by
  funext e
  simp only [bd]
  cases m e <;> rfl
theorem bd_ret {α β : Type} (a : α) (f : α → M β) : bd (pu a) f = f a := rfl
theorem ret_bd {α : Type} (m : M α) : bd m pu = m := by
  funext e
  simp only [bd]
  cases m e <;> rfl
/-- behind the first phase: data with its values, a slot with its own -/
inductive Al (K : PySem.W.Frag) (σ : L2.St) (H : Hp) (O : Addr → Prop) : List Opd → List D → List V → Prop
  | nil : Al K σ H O [] [] []
  | d {m : M D} {r : List Opd} {x : D} {xs : List D} {v : V} {vs : List V} : Rep K O H x v → Al K σ H O r xs vs → Al K σ H O (.d m :: r) (x :: xs) (v :: vs)
  | o {i : Nat} {r : List Opd} {xs : List D} {v : V} {vs : List V} : σ[i]? = some (some v) → Al K σ H O r xs vs → Al K σ H O (.o i :: r) xs (v :: vs)
/-- behind the second -/
inductive Ar (K : PySem.W.Frag) (σ : L2.St) (ε : Sl) (H : Hp) (O : Addr → Prop) : List Opd → List D → List V → Prop
  | nil : Ar K σ ε H O [] [] []
  | d {m : M D} {r : List Opd} {x : D} {xs : List D} {v : V} {vs : List V} : Rep K O H x v → Ar K σ ε H O r xs vs → Ar K σ ε H O (.d m :: r) (x :: xs) (v :: vs)
  | o {i : Nat} {r : List Opd} {x : D} {xs : List D} {v : V} {vs : List V} : σ[i]? = some (some v) → ε[i]? = some (some x) → Ar K σ ε H O r xs vs → Ar K σ ε H O (.o i :: r) (x :: xs) (v :: vs)
section
variable {C : Cc} {σ : L2.St} {H H1 : Hp} {F F1 : Fp} {P : Addr → Prop} {ε ε1 : Sl} {α β : Type}
theorem tAs.imp : ∀ (as : List Opd) {H : Hp} {Q Q' : List V → Hp → Prop}, tAs C as σ H Q → (∀ vs H', Q vs H' → Q' vs H') → tAs C as σ H Q' := by
  intro as
  induction as with
  | nil => exact fun h i => i _ _ h
  | cons o r ih => exact fun h i => tO.imp h fun v H' q => ih q fun vs H'' q => i _ _ q
theorem ph1_run : ∀ (as : List Opd) {β : Type} {f : List D → M β} {Φ : Hp → Fp → Out β → Prop} {H : Hp} {F : Fp} {ε : Sl}, Stp C σ P Φ → RepE C.K C.G H σ ε F P → Φ H F (bd (ph1 as) f ε) →
    tAs C as σ H fun vs H1 => ∃ xs ε1 F1, RepE C.K C.G H1 σ ε1 F1 P ∧ Fr F H F1 H1 ∧ Al C.K σ H1 (Own F1 P) as xs vs ∧ Φ H1 F1 (f xs ε1)
  | [], _, f, Φ, H, F, ε, S, R, h => ⟨[], ε, F, R, Fr.refl, .nil, h⟩
  | .d m :: r, _, f, Φ, H, F, ε, S, R, h => by
    unfold ph1 at h
    rw [bd_assoc] at h
    refine tE.imp (gE_bd S R h) fun v H1 ⟨d, ε1, F1, R1, y1, r1, h1⟩ => ?_
    rw [bd_assoc] at h1
    refine tAs.imp r (ph1_run r S R1 h1) fun vs H2 ⟨xs, ε2, F2, R2, y2, a2, h2⟩ => ?_
    exact ⟨d :: xs, ε2, F2, R2, y1.trans y2, .d (y2.rep r1) a2, h2⟩
  | .o i :: r, _, f, Φ, H, F, ε, S, R, h => by
    unfold ph1 at h
    rw [bd_assoc] at h
    obtain ⟨d, e, h1⟩ := (S.bd h).rd
    obtain ⟨v, hv, _⟩ := R.val i d e
    refine ⟨v, hv, tAs.imp r (ph1_run r S R (h1 _ _ R Fr.refl)) fun vs H2 ⟨xs, ε2, F2, R2, y2, a2, h2⟩ => ?_⟩
    exact ⟨xs, ε2, F2, R2, y2, .o hv a2, h2⟩
theorem ph2_run : ∀ (as : List Opd) {xs : List D} {vs : List V} {β : Type} {f : List D → M β} {Φ : Hp → Fp → Out β → Prop}, Stp C σ P Φ → RepE C.K C.G H σ ε F P → Al C.K σ H (Own F P) as xs vs → Φ H F (bd (ph2 as xs) f ε) →
    ∃ ds, Ar C.K σ ε H (Own F P) as ds vs ∧ Φ H F (f ds ε)
  | [], _, _, _, f, Φ, S, R, A, h => by
    cases A
    exact ⟨[], .nil, h⟩
  | .d m :: r, _, _, _, f, Φ, S, R, A, h => by
    cases A with
    | d r1 A =>
      unfold ph2 at h
      rw [bd_assoc] at h
      obtain ⟨ds, B, q⟩ := ph2_run r S R A h
      exact ⟨_ :: ds, .d r1 B, q⟩
  | .o i :: r, _, _, _, f, Φ, S, R, A, h => by
    cases A with
    | o hv A =>
      unfold ph2 at h
      rw [bd_assoc] at h
      obtain ⟨d, e, h1⟩ := (S.bd h).rd
      have h2 := h1 _ _ R Fr.refl
      rw [bd_assoc] at h2
      obtain ⟨ds, B, q⟩ := ph2_run r S R A h2
      exact ⟨d :: ds, .o hv e B, q⟩
/-- a row of operands -/
theorem gopds {as : List Opd} {f : List D → M β} {Φ : Hp → Fp → Out β → Prop} (S : Stp C σ P Φ) (R : RepE C.K C.G H σ ε F P) (h : Φ H F (bd (opds as) f ε)) :
    tAs C as σ H fun vs H1 => ∃ ds ε1 F1, RepE C.K C.G H1 σ ε1 F1 P ∧ Fr F H F1 H1 ∧ Ar C.K σ ε1 H1 (Own F1 P) as ds vs ∧ Φ H1 F1 (f ds ε1) := by
  unfold opds at h
  rw [bd_assoc] at h
  refine tAs.imp as (ph1_run as S R h) fun vs H1 ⟨xs, ε1, F1, R1, y1, A, h1⟩ => ?_
  obtain ⟨ds, B, q⟩ := ph2_run as S R1 A h1
  exact ⟨ds, ε1, F1, R1, y1, B, q⟩
theorem opds_run {as : List Opd} {f : List D → M β} {Qf : β → Sl → Hp → Fp → Prop} (R : RepE C.K C.G H σ ε F P) (h : Okk C σ H F P (bd (opds as) f ε) Qf) :
    tAs C as σ H fun vs H1 => ∃ ds ε1 F1, RepE C.K C.G H1 σ ε1 F1 P ∧ Fr F H F1 H1 ∧ Ar C.K σ ε1 H1 (Own F1 P) as ds vs ∧ Okk C σ H1 F1 P (f ds ε1) Qf := gopds Okk.stp R h
theorem Ar.wl {as : List Opd} {ds : List D} {vs : List V} (R : RepE C.K C.G H σ ε F P) (A : Ar C.K σ ε H (Own F P) as ds vs) : RepWL C.K (Own F P) H ds vs := by
  induction A with
  | nil => exact .nil
  | d r _ ih => exact .cons r.w ih
  | o hv e _ ih => exact .cons (R.slot e hv) ih
theorem seq_ph1 : ∀ ms : List (M D), seqE ms = ph1 (ms.map Opd.d)
  | [] => rfl
  | m :: ms => by
    show (bd m fun x => bd (seqE ms) fun xs => pu (x :: xs)) = bd m fun x => bd (ph1 (ms.map Opd.d)) fun xs => pu (x :: xs)
    rw [seq_ph1 ms]
theorem Al.list : ∀ {ms : List (M D)} {ds : List D} {vs : List V} {O : Addr → Prop}, Al C.K σ H O (ms.map Opd.d) ds vs → RepL C.K O H ds vs ∧ vs.length = ms.length
  | [], _, _, _, A => by cases A; exact ⟨rfl, rfl⟩
  | m :: ms, _, _, _, A => by
    cases A with
    | d r A =>
      obtain ⟨l, n⟩ := Al.list A
      exact ⟨⟨_, _, rfl, r, l⟩, by simp [n]⟩
theorem rep_tup {K : PySem.W.Frag} {O : Addr → Prop} {ds : List D} {vs : List V} {p : Addr} (dm : ∀ a, O a → H a ≠ none) (l : RepL K O H ds vs) (hp : H p = none) : Rep K O (upd H p (.tup vs)) (.tup ds) (.ref p) :=
  ⟨p, vs, rfl, .inl ⟨fun z => dm p z hp, .inl upd_same⟩, RepL.move (fun a o e _ => same_upd hp a o e) (fun a z => .inl z) _ _ l⟩
theorem rep_lst {K : PySem.W.Frag} {O : Addr → Prop} {ds : List D} {vs : List V} {p : Addr} (dm : ∀ a, O a → H a ≠ none) (l : RepL K O H ds vs) (hp : H p = none) : Rep K O (upd H p (.lst vs)) (.lst ds) (.ref p) :=
  ⟨p, vs, rfl, .inl ⟨fun z => dm p z hp, .inl upd_same⟩, RepL.move (fun a o e _ => same_upd hp a o e) (fun a z => .inl z) _ _ l⟩
theorem RepE.weakP {P' : Addr → Prop} (R : RepE C.K C.G H σ ε F P') (w : ∀ a, P a → P' a) : RepE C.K C.G H σ ε F P := by
  have g : ∀ a, Own F P a → Own F P' a := fun a z => z.elim (fun z => .inl (w a z)) .inr
  refine ⟨R.len, fun i d e => ?_, R.non, R.sep, fun i a h z => R.out i a h (w a z), fun a z => R.dom a (g a z)⟩
  obtain ⟨v, hv, r⟩ := R.val i d e
  exact ⟨v, hv, r.move Keeps.rfl' (fun a z => .inl (g a z)) fun _ _ _ h => h⟩
/-- a new list, as what is owned -/
theorem new_ol {ds : List D} {vs : List V} {p : Addr} (R : RepE C.K C.G H σ ε F P) (l : RepL C.K (Own F P) H ds vs) (hp : H p = none) :
    RepE C.K C.G (upd H p (.lst vs)) σ ε F (fun a => P a ∨ a ∈ [p]) ∧ RepM C.K (Own F (fun a => P a ∨ a ∈ [p])) (upd H p (.lst vs)) .ol (.lst ds) (.ref p) [p] := by
  refine ⟨R.ext (same_upd hp) fun a z => z.elim .inl fun z => .inr ?_, p, vs, ds, rfl, rfl, rfl, upd_same, RepL.move (fun a o e _ => same_upd hp a o e) (fun a z => ?_) _ _ l⟩
  · rw [List.mem_singleton.mp z]
    exact ⟨hp, by rw [upd_same]; intro z; cases z⟩
  · rcases z with (z | z) | z
    · exact .inl (.inl z)
    · exact .inr (by rw [List.mem_singleton.mp z]; exact hp)
    · exact .inl (.inr z)
theorem RepM.toDat {md : Md} {d : D} {v : V} {fp : List Addr} {H' : Hp} (hmd : md ≠ .oll) (r : RepM C.K (Own F (fun a => P a ∨ a ∈ fp)) H' md d v fp) (n : ∀ a ∈ fp, ¬ Own F P a) : Rep C.K (Own F P) H' d v := by
  cases md with
  | dat => exact r.2.weak fun a z => z.elim (fun z => .inl (.inl z)) .inr
  | ol =>
    obtain ⟨a, vs, ds, rfl, rfl, rfl, e, l⟩ := r
    exact ⟨a, vs, rfl, .inl ⟨n a (List.mem_singleton.mpr rfl), .inl e⟩, l.weak fun a z => z.elim (fun z => .inl (.inl z)) .inr⟩
  | ox =>
    rcases r with ⟨a, vs, ds, rfl, rfl, rfl, e, l⟩ | ⟨h1, h2, h3⟩
    · exact ⟨a, vs, rfl, .inl ⟨n a (List.mem_singleton.mpr rfl), .inl e⟩, l.weak fun a z => z.elim (fun z => .inl (.inl z)) .inr⟩
    · exact h3.weak fun a z => z.elim (fun z => .inl (.inl z)) .inr
  | od =>
    obtain ⟨a, vs, ds, rfl, rfl, rfl, e, l⟩ := r
    exact ⟨a, vs, rfl, n a (List.mem_singleton.mpr rfl), e, RepD.move Keeps.rfl' (fun a z => .inl (z.elim (fun z => .inl (.inl z)) .inr)) _ _ l⟩
  | oh =>
    obtain ⟨a, vs, ds, rfl, rfl, rfl, e, l⟩ := r
    exact ⟨a, vs, rfl, n a (List.mem_singleton.mpr rfl), e, RepH.move Keeps.rfl' (fun a z => .inl (z.elim (fun z => .inl (.inl z)) .inr)) _ _ l⟩
  | oll => exact (hmd rfl).elim
theorem fe_run {md : Md} {m : M D} {Q : VK} (hmd : md ≠ .oll) (h : tE C m σ H Q) : tF C md m σ H Q := by
  obtain ⟨ε, F, P, R, h⟩ := h
  refine ⟨ε, F, P, R, ?_⟩
  cases e : m ε with
  | ok d ε' =>
    rw [e] at h
    intro v H' F' fp R' y n r
    refine h H' F' (R'.weakP fun a z => .inl z) y v (r.toDat hmd fun a ha z => ?_)
    rcases z with z | ⟨i, z⟩
    · exact R.dom a (.inl z) (n a ha)
    · exact R'.out i a z (.inr ha)
  | exn c ε' => rw [e] at h; exact h
  | bad => rw [e] at h; exact h
/-- a fresh list ends an expression -/
theorem finF {d : D} {Q : VK} (R : RepE C.K C.G H σ ε F P) (h : OkF C .ol σ Q P H F (.ok d ε)) {ds : List D} {vs : List V} {p : Addr} (ed : d = .lst ds) (l : RepL C.K (Own F P) H ds vs) (hp : H p = none) : Q (.ref p) (upd H p (.lst vs)) := by
  subst ed
  obtain ⟨a, b⟩ := new_ol R l hp
  exact h _ _ _ [p] a (Fr.ext (same_upd hp)) (fun a ha => by rw [List.mem_singleton.mp ha]; exact hp) b
theorem OkF.opt {md : Md} {o : Option D} {Q : VK} (h : OkF C md σ Q P H F (Cr.opt o ε)) : ∃ d, o = some d ∧ OkF C md σ Q P H F (.ok d ε) := by
  cases o with
  | none => exact h.elim
  | some a => exact ⟨a, rfl, h⟩
end
section
variable {X : Cx} {C : Cc} {e : Expr} {es : List Expr} {pos : Pos} {m : M D} {ms : List (M D)} {as : List Opd} {md : Md}
theorem re_fe (h : PE X e (tF C md m)) (hmd : md ≠ .oll := by decide) : PE X e (tE C m) := PE.mono h fun σ H Q h => fe_run hmd h
theorem ra_nil : PA X [] (tAs C []) := pa_nil
theorem ra_cons {o : Opd} (ha : PE X e (tO C o)) (hr : PA X es (tAs C as)) (hs : starEach (e :: es) X.env = (false, eval e X.env) :: starEach es X.env := by rfl) : PA X (e :: es) (tAs C (o :: as)) := pa_cons ha hr hs
theorem seq_run {σ : L2.St} {H : Hp} {F : Fp} {P : Addr → Prop} {ε : Sl} {β : Type} {f : List D → M β} {Φ : Hp → Fp → Out β → Prop} (S : Stp C σ P Φ) (R : RepE C.K C.G H σ ε F P) (h : Φ H F (bd (seqE ms) f ε)) :
    tAs C (ms.map Opd.d) σ H fun vs H1 => ∃ ds ε1 F1, RepE C.K C.G H1 σ ε1 F1 P ∧ Fr F H F1 H1 ∧ RepL C.K (Own F1 P) H1 ds vs ∧ vs.length = ms.length ∧ Φ H1 F1 (f ds ε1) := by
  rw [seq_ph1] at h
  refine tAs.imp _ (ph1_run _ S R h) fun vs H1 ⟨xs, ε1, F1, R1, y1, A, h1⟩ => ?_
  obtain ⟨l, n⟩ := A.list
  exact ⟨xs, ε1, F1, R1, y1, l, n, h1⟩
theorem re_tup {x1} (h : PA X es (tAs C (ms.map Opd.d))) (hl : ms.length ≤ 1000 := by decide) : PE X (.Tuple es x1 pos) (tE C (tupE ms)) :=
  PE.mono (pe_tup h) fun σ H Q ⟨ε, F, P, R, h⟩ => tAs.imp _ (seq_run Okk.stp R h) fun vs H1 ⟨ds, ε1, F1, R1, y1, l, n, h1⟩ =>
    ⟨Nat.le_of_lt (small1000 (by omega)), fun p hp => h1 _ _ (R1.grow (same_upd hp)) (Fr.ext (same_upd hp)) _ (rep_tup R1.dom l hp)⟩
theorem rf_lst (h : PA X es (tAs C (ms.map Opd.d))) (hl : ms.length ≤ 1000 := by decide) : PE X (.List es pos) (tF C .ol (lstE ms)) :=
  PE.mono (pe_lst h) fun σ H Q ⟨ε, F, P, R, h⟩ => tAs.imp _ (seq_run OkF.stp R h) fun vs H1 ⟨ds, ε1, F1, R1, y1, l, n, h1⟩ =>
    ⟨Nat.le_of_lt (small1000 (by omega)), fun p hp => finF R1 h1 rfl l hp⟩
/-! ### built-ins by values -/
def CallS (K : PySem.W.Frag) (r : List V → Hp → VK → Prop) (g : List D → Option D) : Prop := ∀ (O : Addr → Prop) (H : Hp) (vs : List V) (ds : List D) (d : D) (Q : VK), (∀ a, O a → H a ≠ none) → RepWL K O H ds vs → g ds = some d →
  (∀ v H', (∀ a u, H a = some u → H' a = some u) → Rep K O H' d v → Q v H') → r vs H Q
/-- .. that make a new list -/
def CallN (K : PySem.W.Frag) (r : List V → Hp → VK → Prop) (g : List D → Option D) : Prop := ∀ (O : Addr → Prop) (H : Hp) (vs : List V) (ds : List D) (d : D) (Q : VK), (∀ a, O a → H a ≠ none) → RepWL K O H ds vs → g ds = some d →
  (∀ p xs ws, d = .lst xs → H p = none → RepL K O H xs ws → Q (.ref p) (upd H p (.lst ws))) → r vs H Q
theorem callB_run {r : List V → Hp → VK → Prop} {g : List D → Option D} (hs : CallS C.K r g) {σ : L2.St} {H : Hp} {Q : VK} (h : tE C (callB g as) σ H Q) : tCB r (tAs C as) σ H Q := by
  obtain ⟨ε, F, P, R, h⟩ := h
  refine tAs.imp _ (opds_run R h) fun vs H1 ⟨ds, ε1, F1, R1, y1, A, h1⟩ => ?_
  obtain ⟨d, e, q⟩ := fin R1 h1
  exact hs _ _ _ _ _ _ R1.dom (A.wl R1) e q
theorem callN_run {r : List V → Hp → VK → Prop} {g : List D → Option D} (hs : CallN C.K r g) {σ : L2.St} {H : Hp} {Q : VK} (h : tF C .ol (callB g as) σ H Q) : tCB r (tAs C as) σ H Q := by
  obtain ⟨ε, F, P, R, h⟩ := h
  refine tAs.imp _ (gopds OkF.stp R h) fun vs H1 ⟨ds, ε1, F1, R1, y1, A, h1⟩ => ?_
  obtain ⟨d, e, q⟩ := OkF.opt h1
  exact hs _ _ _ _ _ _ R1.dom (A.wl R1) e fun p xs ws ed hp l => finF R1 q ed l hp
end
end Lk

end
section
set_option maxRecDepth 100000
set_option maxHeartbeats 4000000
/-! Lk4: calls of defs. -/
namespace Lk
open PySem PySem.Spec PyProof.Rows L2 Cr
/-- a def's modes -/
def gm (pm : List Md) : Nat → Md := fun i => pm[i]?.getD .dat
/-- a def's promise: what the plain function says -/
def spF (K : PySem.W.Frag) (pm : List Md) (rm : Md) (cl : Nat → Addr) (f : Fn) : Sp := fun vs H Q E => ∃ (ds : List D) (F : Fp) (P : Addr → Prop), RepE K (gm pm) H (vs.map some) (ds.map some) F P ∧ vs.length = pm.length ∧
  match f ds with
  | .ok d ds' => ∀ v H' F' fp, RepE K (gm pm) H' (vs.map some) (ds'.map some) F' (fun a => P a ∨ a ∈ fp) → Fr F H F' H' → (∀ a ∈ fp, H a = none) → RepM K (Own F' (fun a => P a ∨ a ∈ fp)) H' rm d v fp → Q v H'
  | .exn c => (∀ i, F i = []) ∧ ∀ H', (∀ a o, H a = some o → H' a = some o) → E (.ref (cl c)) none H'
  | .bad => False
theorem spF_len {K : PySem.W.Frag} {pm : List Md} {rm : Md} {cl : Nat → Addr} {f : Fn} {vs : List V} {H : Hp} {Q : VK} {E : XK} (h : spF K pm rm cl f vs H Q E) : vs.length = pm.length := by
  obtain ⟨_, _, _, _, e, _⟩ := h
  exact e
/-- the operands fit the parameters: data to data, what a slot owns to an own parameter; no slot twice -/
def fits (G : Nat → Md) : List Opd → List Md → Bool
  | [], [] => true
  | .d _ :: as, m :: ms => decide (m = .dat) && fits G as ms
  | .o i :: as, m :: ms => decide (m = G i) && decide (m ≠ .dat) && fits G as ms
  | _, _ => false
theorem sl_mem : ∀ {as : List Opd} {k i : Nat}, sl as k = some i → i ∈ slots as
  | [], k, i, h => by simp [sl] at h
  | .d _ :: as, 0, i, h => by simp [sl] at h
  | .o j :: as, 0, i, h => by simp [sl] at h; subst h; simp [slots]
  | .d _ :: as, k + 1, i, h => by
    have : sl as k = some i := by simpa [sl] using h
    simpa [slots] using sl_mem this
  | .o j :: as, k + 1, i, h => by
    have : sl as k = some i := by simpa [sl] using h
    exact List.mem_cons_of_mem _ (sl_mem this)
theorem sl_inj : ∀ {as : List Opd} {k k' i : Nat}, (slots as).Nodup → sl as k = some i → sl as k' = some i → k = k'
  | [], k, _, i, _, h, _ => by simp [sl] at h
  | .d _ :: as, 0, _, i, _, h, _ => by simp [sl] at h
  | .d _ :: as, _ + 1, 0, i, _, _, h => by simp [sl] at h
  | .d _ :: as, k + 1, k' + 1, i, n, h, h' => by
    have a : sl as k = some i := by simpa [sl] using h
    have b : sl as k' = some i := by simpa [sl] using h'
    rw [sl_inj (as := as) (by simpa [slots] using n) a b]
  | .o j :: as, 0, 0, i, _, _, _ => rfl
  | .o j :: as, 0, k' + 1, i, n, h, h' => by
    have a : j = i := by simpa [sl] using h
    have b : sl as k' = some i := by simpa [sl] using h'
    subst a
    have n' : j ∉ slots as := by simp only [slots, List.nodup_cons] at n; exact n.1
    exact absurd (sl_mem b) n'
  | .o j :: as, k + 1, 0, i, n, h, h' => by
    have a : j = i := by simpa [sl] using h'
    have b : sl as k = some i := by simpa [sl] using h
    subst a
    have n' : j ∉ slots as := by simp only [slots, List.nodup_cons] at n; exact n.1
    exact absurd (sl_mem b) n'
  | .o j :: as, k + 1, k' + 1, i, n, h, h' => by
    have a : sl as k = some i := by simpa [sl] using h
    have b : sl as k' = some i := by simpa [sl] using h'
    have n' : (slots as).Nodup := by simp only [slots, List.nodup_cons] at n; exact n.2
    rw [sl_inj n' a b]
section
variable {K : PySem.W.Frag} {σ : L2.St} {ε : Sl} {H : Hp} {O : Addr → Prop}
theorem Ar.len {as : List Opd} {ds : List D} {vs : List V} (A : Ar K σ ε H O as ds vs) : ds.length = as.length ∧ vs.length = as.length := by
  induction A with
  | nil => exact ⟨rfl, rfl⟩
  | d _ _ ih => simp [ih]
  | o _ _ _ ih => simp [ih]
theorem Ar.get {as : List Opd} {ds : List D} {vs : List V} (A : Ar K σ ε H O as ds vs) : ∀ {k : Nat} {d : D}, ds[k]? = some d → ∃ v, vs[k]? = some v ∧
    ((sl as k = none ∧ Rep K O H d v) ∨ ∃ i, sl as k = some i ∧ σ[i]? = some (some v) ∧ ε[i]? = some (some d)) := by
  induction A with
  | nil => intro k d h; simp at h
  | @d m r x xs v vs r1 _ ih =>
    intro k d h
    cases k with
    | zero =>
      simp at h
      subst h
      exact ⟨v, rfl, .inl ⟨rfl, r1⟩⟩
    | succ k =>
      obtain ⟨u, hu, q⟩ := ih (k := k) (d := d) (by simpa using h)
      exact ⟨u, by simpa using hu, by simpa [sl] using q⟩
  | @o i r x xs v vs hv he _ ih =>
    intro k d h
    cases k with
    | zero =>
      simp at h
      subst h
      exact ⟨v, rfl, .inr ⟨i, rfl, hv, he⟩⟩
    | succ k =>
      obtain ⟨u, hu, q⟩ := ih (k := k) (d := d) (by simpa using h)
      exact ⟨u, by simpa using hu, by simpa [sl] using q⟩
theorem fits_len : ∀ {G : Nat → Md} {as : List Opd} {pm : List Md}, fits G as pm = true → as.length = pm.length
  | _, [], [], _ => rfl
  | G, .d _ :: as, m :: ms, h => by
    simp only [fits, Bool.and_eq_true] at h
    simp [fits_len h.2]
  | G, .o _ :: as, m :: ms, h => by
    simp only [fits, Bool.and_eq_true] at h
    simp [fits_len h.2]
  | _, [], _ :: _, h => by simp [fits] at h
  | _, .d _ :: _, [], h => by simp [fits] at h
  | _, .o _ :: _, [], h => by simp [fits] at h
theorem fits_at : ∀ {G : Nat → Md} {as : List Opd} {pm : List Md} {k : Nat}, fits G as pm = true → (∀ i, sl as k = some i → gm pm k = G i) ∧ (sl as k = none → gm pm k = .dat)
  | _, [], [], k, _ => by simp [sl, gm]
  | G, .d _ :: as, m :: ms, 0, h => by
    simp only [fits, Bool.and_eq_true, decide_eq_true_eq] at h
    simp [sl, gm, h.1]
  | G, .d _ :: as, m :: ms, k + 1, h => by
    simp only [fits, Bool.and_eq_true, decide_eq_true_eq] at h
    simpa [sl, gm] using fits_at (k := k) h.2
  | G, .o i :: as, m :: ms, 0, h => by
    simp only [fits, Bool.and_eq_true, decide_eq_true_eq] at h
    simp [sl, gm, h.1.1]
  | G, .o _ :: as, m :: ms, k + 1, h => by
    simp only [fits, Bool.and_eq_true, decide_eq_true_eq] at h
    simpa [sl, gm] using fits_at (k := k) h.2
  | _, [], _ :: _, _, h => by simp [fits] at h
  | _, .d _ :: _, [], _, h => by simp [fits] at h
  | _, .o _ :: _, [], _, h => by simp [fits] at h
end
/-- what the callee's parameters own; what else is owned -/
def Fc (as : List Opd) (F : Fp) : Fp := fun k => match sl as k with
  | some i => F i
  | none => []
def Pc (as : List Opd) (F : Fp) (P : Addr → Prop) : Addr → Prop := fun a => P a ∨ ∃ j, j ∉ slots as ∧ a ∈ F j
theorem slots_sl : ∀ {as : List Opd} {i : Nat}, i ∈ slots as → ∃ k, sl as k = some i
  | [], _, h => by simp [slots] at h
  | .d _ :: as, i, h => by
    obtain ⟨k, e⟩ := slots_sl (as := as) (by simpa [slots] using h)
    exact ⟨k + 1, by simpa [sl] using e⟩
  | .o j :: as, i, h => by
    simp only [slots, List.mem_cons] at h
    rcases h with h | h
    · exact ⟨0, by simp [sl, h]⟩
    · obtain ⟨k, e⟩ := slots_sl (as := as) h
      exact ⟨k + 1, by simpa [sl] using e⟩
theorem own_c (as : List Opd) (F : Fp) (P : Addr → Prop) (a : Addr) : Own (Fc as F) (Pc as F P) a ↔ Own F P a := by
  constructor
  · rintro ((z | ⟨j, _, z⟩) | ⟨k, z⟩)
    · exact .inl z
    · exact .inr ⟨j, z⟩
    · unfold Fc at z
      cases e : sl as k with
      | none => rw [e] at z; cases z
      | some i => rw [e] at z; exact .inr ⟨i, z⟩
  · rintro (z | ⟨j, z⟩)
    · exact .inl (.inl z)
    · by_cases m : j ∈ slots as
      · obtain ⟨k, e⟩ := slots_sl m
        exact .inr ⟨k, by unfold Fc; rw [e]; exact z⟩
      · exact .inl (.inr ⟨j, m, z⟩)
theorem back_ok : ∀ {as : List Opd} {ds : List D} {ε ε' : Sl} {u : Unit}, (slots as).Nodup → back as ds ε = .ok u ε' → ε'.length = ε.length ∧ (∀ j, j ∉ slots as → ε'[j]? = ε[j]?) ∧ ∀ k i, sl as k = some i → ∃ d, ds[k]? = some d ∧ ε'[i]? = some (some d)
  | [], ds, ε, ε', u, _, h => by
    simp only [back, pu] at h
    cases h
    exact ⟨rfl, fun _ _ => rfl, fun k i e => by simp [sl] at e⟩
  | .d _ :: as, [], ε, ε', u, _, h => by simp [back, badM] at h
  | .o _ :: as, [], ε, ε', u, _, h => by simp [back, badM] at h
  | .d _ :: as, x :: ds, ε, ε', u, n, h => by
    simp only [back] at h
    obtain ⟨a, b, c⟩ := back_ok (as := as) (by simpa [slots] using n) h
    refine ⟨a, fun j m => b j (by simpa [slots] using m), fun k i e => ?_⟩
    cases k with
    | zero => simp [sl] at e
    | succ k =>
      obtain ⟨d, q1, q2⟩ := c k i (by simpa [sl] using e)
      exact ⟨d, by simpa using q1, q2⟩
  | .o i :: as, x :: ds, ε, ε', u, n, h => by
    simp only [back, bd, wr] at h
    by_cases hi : i < ε.length
    · rw [if_pos hi] at h
      simp only [slots, List.nodup_cons] at n
      obtain ⟨a, b, c⟩ := back_ok n.2 h
      refine ⟨by rw [a, List.length_set], fun j m => ?_, fun k i' e => ?_⟩
      · simp only [slots, List.mem_cons, not_or] at m
        rw [b j m.2, List.getElem?_set_ne (Ne.symm m.1)]
      · cases k with
        | zero =>
          have e' : i = i' := by simpa [sl] using e
          subst e'
          exact ⟨x, rfl, by rw [b i n.1, List.getElem?_set_self hi]⟩
        | succ k =>
          obtain ⟨d, q1, q2⟩ := c k i' (by simpa [sl] using e)
          exact ⟨d, by simpa using q1, q2⟩
    · rw [if_neg hi] at h
      cases h
theorem back_exn : ∀ {as : List Opd} {ds : List D} {ε ε' : Sl} {c : Nat}, back as ds ε ≠ .exn c ε'
  | [], ds, ε, ε', c => by simp [back, pu]
  | .d _ :: as, [], ε, ε', c => by simp [back, badM]
  | .o _ :: as, [], ε, ε', c => by simp [back, badM]
  | .d _ :: as, x :: ds, ε, ε', c => by
    simp only [back]
    exact back_exn
  | .o i :: as, x :: ds, ε, ε', c => by
    simp only [back, bd, wr]
    by_cases hi : i < ε.length
    · rw [if_pos hi]; exact back_exn
    · rw [if_neg hi]; simp
section
variable {C : Cc} {σ : L2.St} {H H1 : Hp} {F : Fp} {P : Addr → Prop} {ε : Sl} {as : List Opd} {pm : List Md} {rm : Md} {ds : List D} {vs : List V}
/-- the callee's start -/
theorem callee (R : RepE C.K C.G H σ ε F P) (A : Ar C.K σ ε H (Own F P) as ds vs) (hf : fits C.G as pm = true) (hn : (slots as).Nodup) : RepE C.K (gm pm) H (vs.map some) (ds.map some) (Fc as F) (Pc as F P) := by
  have oi := own_c as F P
  have g : Grows (Own F P) (Own (Fc as F) (Pc as F P)) H := fun a z => .inl ((oi a).mp z)
  refine ⟨by simp [A.len], fun k d e => ?_, fun k no => ?_, fun k k' a h h' => ?_, fun k a h z => ?_, fun a z => R.dom a ((oi a).mp z)⟩
  · have e' : ds[k]? = some d := by
      rw [List.getElem?_map] at e
      cases q : ds[k]? with
      | none => rw [q] at e; cases e
      | some x => rw [q] at e; simp at e; rw [e]
    obtain ⟨v, hv, q⟩ := A.get e'
    refine ⟨v, by rw [List.getElem?_map, hv]; rfl, ?_⟩
    rcases q with ⟨n, r⟩ | ⟨i, s, hs, he⟩
    · rw [(fits_at (k := k) hf).2 n]
      exact ⟨by unfold Fc; rw [n], Rep.move Keeps.rfl' g _ _ r⟩
    · obtain ⟨u, hu, r⟩ := R.val i d he
      rw [hs] at hu
      cases hu
      rw [(fits_at (k := k) hf).1 i s]
      have : Fc as F k = F i := by unfold Fc; rw [s]
      rw [this]
      exact r.move Keeps.rfl' g fun _ _ _ h => h
  · unfold Fc
    cases s : sl as k with
    | none => rfl
    | some i =>
      exfalso
      have hk : k < ds.length := by
        rw [A.len.1]
        unfold sl at s
        cases q : as[k]? with
        | none => rw [q] at s; cases s
        | some o => exact (List.getElem?_eq_some_iff.mp q).1
      exact no ds[k] (by rw [List.getElem?_map, List.getElem?_eq_getElem hk]; rfl)
  · unfold Fc at h h'
    cases s : sl as k with
    | none => rw [s] at h; cases h
    | some i =>
      cases s' : sl as k' with
      | none => rw [s'] at h'; cases h'
      | some i' =>
        rw [s] at h
        rw [s'] at h'
        have e := R.sep i i' a h h'
        subst e
        exact sl_inj hn s s'
  · unfold Fc at h
    cases s : sl as k with
    | none => rw [s] at h; cases h
    | some i =>
      rw [s] at h
      rcases z with z | ⟨j, m, z⟩
      · exact R.out i a h z
      · have e := R.sep i j a h z
        subst e
        exact m (sl_mem s)
open Classical in
/-- what the caller's slots own behind the call -/
noncomputable def Fb (as : List Opd) (F F' : Fp) : Fp := fun j => if h : ∃ k, sl as k = some j then F' h.choose else F j
theorem Fb_in (hn : (slots as).Nodup) {F F' : Fp} {k j : Nat} (e : sl as k = some j) : Fb as F F' j = F' k := by
  have h : ∃ k, sl as k = some j := ⟨k, e⟩
  unfold Fb
  rw [dif_pos h]
  rw [sl_inj hn h.choose_spec e]
theorem Fb_out {F F' : Fp} {j : Nat} (e : j ∉ slots as) : Fb as F F' j = F j := by
  unfold Fb
  rw [dif_neg fun ⟨k, h⟩ => e (sl_mem h)]
theorem Fb_cases (hn : (slots as).Nodup) (F F' : Fp) (j : Nat) : (∃ k, sl as k = some j ∧ Fb as F F' j = F' k) ∨ (j ∉ slots as ∧ Fb as F F' j = F j) := by
  by_cases m : j ∈ slots as
  · obtain ⟨k, e⟩ := slots_sl m
    exact .inl ⟨k, e, Fb_in hn e⟩
  · exact .inr ⟨m, Fb_out m⟩
/-- behind the call -/
theorem called {H' : Hp} {F' : Fp} {fp : List Addr} {ds' : List D} {ε' : Sl} {u : Unit} (R : RepE C.K C.G H σ ε F P) (A : Ar C.K σ ε H (Own F P) as ds vs) (hf : fits C.G as pm = true) (hn : (slots as).Nodup)
    (R' : RepE C.K (gm pm) H' (vs.map some) (ds'.map some) F' (fun a => Pc as F P a ∨ a ∈ fp)) (y : Fr (Fc as F) H F' H') (nf : ∀ a ∈ fp, H a = none) (hb : back as ds' ε = .ok u ε') (hlen : ∀ k, as.length ≤ k → F' k = []) :
    RepE C.K C.G H' σ ε' (Fb as F F') (fun a => P a ∨ a ∈ fp) ∧ Fr F H (Fb as F F') H' ∧ ∀ a, Own (Fb as F F') (fun a => P a ∨ a ∈ fp) a → Own F' (fun a => Pc as F P a ∨ a ∈ fp) a := by
  obtain ⟨bl, bo, bi⟩ := back_ok hn hb
  have noF : ∀ k, sl as k = none → F' k = [] := fun k e => by
    by_cases hk : k < as.length
    · apply Classical.byContradiction
      intro ne
      have : ∃ d, (ds'.map some)[k]? = some (some d) := Classical.byContradiction fun z => ne (R'.non k fun d q => z ⟨d, q⟩)
      obtain ⟨d, hd⟩ := this
      obtain ⟨v, hv, r⟩ := R'.val k d hd
      rw [(fits_at (k := k) hf).2 e] at r
      exact ne r.1
    · exact hlen k (by omega)
  have up : ∀ a, Own F' (fun a => Pc as F P a ∨ a ∈ fp) a → Own (Fb as F F') (fun a => P a ∨ a ∈ fp) a := by
    rintro a (((z | ⟨j, m, z⟩) | z) | ⟨k, z⟩)
    · exact .inl (.inl z)
    · exact .inr ⟨j, by rw [Fb_out m]; exact z⟩
    · exact .inl (.inr z)
    · cases e : sl as k with
      | none => rw [noF k e] at z; cases z
      | some j => exact .inr ⟨j, by rw [Fb_in hn e]; exact z⟩
  have down : ∀ a, Own (Fb as F F') (fun a => P a ∨ a ∈ fp) a → Own F' (fun a => Pc as F P a ∨ a ∈ fp) a := by
    rintro a ((z | z) | ⟨j, z⟩)
    · exact .inl (.inl (.inl z))
    · exact .inl (.inr z)
    · rcases Fb_cases hn F F' j with ⟨k, _, e⟩ | ⟨m, e⟩
      · rw [e] at z; exact .inr ⟨k, z⟩
      · rw [e] at z; exact .inl (.inl (.inr ⟨j, m, z⟩))
  have fr : Fr F H (Fb as F F') H' := by
    refine ⟨fun a o h n => y.keep a o h fun k z => ?_, fun j a z => ?_, y.live⟩
    · unfold Fc at z
      cases e : sl as k with
      | none => rw [e] at z; cases z
      | some i => rw [e] at z; exact n i z
    · rcases Fb_cases hn F F' j with ⟨k, _, e⟩ | ⟨m, e⟩
      · rw [e] at z
        rcases y.grow k a z with ⟨k', z⟩ | z
        · unfold Fc at z
          cases e' : sl as k' with
          | none => rw [e'] at z; cases z
          | some i => rw [e'] at z; exact .inl ⟨i, z⟩
        · exact .inr z
      · rw [e] at z; exact .inl ⟨j, z⟩
  have g : Grows (Own F P) (Own (Fb as F F') (fun a => P a ∨ a ∈ fp)) H := by
    rintro a ((z | z) | ⟨j, z⟩)
    · exact .inl (.inl z)
    · exact .inr (nf a z)
    · rcases fr.grow j a z with ⟨i, z⟩ | z
      · exact .inl (.inr ⟨i, z⟩)
      · exact .inr z
  refine ⟨⟨by rw [bl, R.len], fun j d e => ?_, fun j no => ?_, fun j j' a h h' => ?_, fun j a h z => ?_, fun a z => R'.dom a (down a z)⟩, fr, down⟩
  · rcases Fb_cases hn F F' j with ⟨k, s, ef⟩ | ⟨m, ef⟩
    · obtain ⟨d', q1, q2⟩ := bi k j s
      rw [e] at q2
      have : d = d' := Option.some.inj (Option.some.inj q2)
      subst this
      obtain ⟨v, hv, r⟩ := R'.val k d (by rw [List.getElem?_map, q1]; rfl)
      have hd : ∃ d0, ds[k]? = some d0 := by
        have hk : k < ds.length := by
          rw [A.len.1]
          unfold sl at s
          cases q : as[k]? with
          | none => rw [q] at s; cases s
          | some o => exact (List.getElem?_eq_some_iff.mp q).1
        exact ⟨_, List.getElem?_eq_getElem hk⟩
      obtain ⟨d0, hd0⟩ := hd
      obtain ⟨v0, hv0, q⟩ := A.get hd0
      have ev : v0 = v := by
        rw [List.getElem?_map, hv0] at hv
        exact Option.some.inj (Option.some.inj hv)
      subst ev
      rcases q with ⟨n, _⟩ | ⟨i, s', hs, _⟩
      · rw [n] at s; cases s
      · have : i = j := Option.some.inj (s'.symm.trans s)
        subst this
        refine ⟨v0, hs, ?_⟩
        rw [ef, ← (fits_at (k := k) hf).1 i s]
        exact r.move Keeps.rfl' (fun a z => .inl (down a z)) fun _ _ _ h => h
    · rw [bo j m] at e
      obtain ⟨v, hv, r⟩ := R.val j d e
      refine ⟨v, hv, ?_⟩
      rw [ef]
      refine r.move (fun a o h n => fr.keep a o h fun i hi => n (.inr ⟨i, hi⟩)) g fun a ha o ho => y.keep a o ho fun k z => ?_
      unfold Fc at z
      cases s : sl as k with
      | none => rw [s] at z; cases z
      | some i =>
        rw [s] at z
        have e := R.sep i j a z ha
        subst e
        exact m (sl_mem s)
  · rcases Fb_cases hn F F' j with ⟨k, s, ef⟩ | ⟨m, ef⟩
    · obtain ⟨d', q1, q2⟩ := bi k j s
      exact absurd q2 (no d')
    · rw [ef]
      refine R.non j fun d => ?_
      rw [← bo j m]
      exact no d
  · rcases Fb_cases hn F F' j with ⟨k, s, ef⟩ | ⟨m, ef⟩
    · rcases Fb_cases hn F F' j' with ⟨k', s', ef'⟩ | ⟨m', ef'⟩
      · rw [ef] at h
        rw [ef'] at h'
        have e := R'.sep k k' a h h'
        subst e
        exact Option.some.inj (s.symm.trans s')
      · rw [ef] at h
        rw [ef'] at h'
        exact (R'.out k a h (.inl (.inr ⟨j', m', h'⟩))).elim
    · rcases Fb_cases hn F F' j' with ⟨k', s', ef'⟩ | ⟨m', ef'⟩
      · rw [ef] at h
        rw [ef'] at h'
        exact (R'.out k' a h' (.inl (.inr ⟨j, m, h⟩))).elim
      · rw [ef] at h
        rw [ef'] at h'
        exact R.sep j j' a h h'
  · rcases Fb_cases hn F F' j with ⟨k, s, ef⟩ | ⟨m, ef⟩
    · rw [ef] at h
      rcases z with z | z
      · exact R'.out k a h (.inl (.inl z))
      · exact R'.out k a h (.inr z)
    · rw [ef] at h
      rcases z with z | z
      · exact R.out j a h z
      · exact R.dom a (.inr ⟨j, h⟩) (nf a z)
end
end Lk

end
section
set_option maxRecDepth 100000
set_option maxHeartbeats 4000000
/-! Lk5: the rule of a call; statements. -/
namespace Lk
open PySem PySem.Spec PyProof.Rows L2 Cr
section
variable {C : Cc} {σ : L2.St} {H : Hp} {as : List Opd} {pm : List Md} {rm : Md} {f : Fn} {cl : Nat → Addr}
theorem callF_run (hf : fits C.G as pm = true) (hn : (slots as).Nodup) {E : XK} (hE : ∀ c H', C.W c σ H' → E (.ref (cl c)) none H') {Q : VK} (h : tF C rm (callF f as) σ H Q) :
    tAs C as σ H fun vs H1 => spF C.K pm rm cl f vs H1 Q E := by
  obtain ⟨ε, F, P, R, h⟩ := h
  refine tAs.imp _ (gopds OkF.stp R h) fun vs H1 ⟨ds, ε1, F1, R1, y1, A, h1⟩ => ?_
  have hl : vs.length = pm.length := A.len.2.trans (fits_len hf)
  refine ⟨ds, Fc as F1, Pc as F1 P, callee R1 A hf hn, hl, ?_⟩
  cases e : f ds with
  | bad =>
    simp only [e] at h1
    exact h1.elim
  | exn c =>
    simp only [e] at h1
    by_cases ns : slots as = []
    case neg =>
      rw [if_neg ns] at h1
      exact h1.elim
    rw [if_pos ns] at h1
    have noF : ∀ i, Fc as F1 i = [] := fun i => by
      unfold Fc
      cases s : sl as i with
      | none => rfl
      | some j => exact absurd (sl_mem s) (by rw [ns]; simp)
    exact ⟨noF, fun H' x => hE c H' (h1 H' F1 (R1.grow x) (Fr.ext x))⟩
  | ok d ds' =>
    simp only [e] at h1
    intro v H' F' fp R' y nf r
    cases eb : back as ds' ε1 with
    | exn c e' => exact (back_exn eb).elim
    | bad =>
      simp only [bd, eb] at h1
      exact h1.elim
    | ok u ε2 =>
      simp only [bd, eb, pu] at h1
      have hlen : ∀ k, as.length ≤ k → F' k = [] := fun k hk => R'.non k fun d q => by
        have l := R'.len
        simp only [List.length_map] at l
        rw [List.getElem?_map, List.getElem?_eq_none (by rw [l, A.len.2]; exact hk)] at q
        cases q
      obtain ⟨R2, y2, dn⟩ := called R1 A hf hn R' y nf eb hlen
      exact h1 v H' (Fb as F1 F') fp R2 y2 nf (r.move Keeps.rfl' (fun a z => .inl (dn a z)) fun _ _ _ h => h)
end
/-! ### statements -/
def Pin (C : Cc) (σ σ' : L2.St) : Prop := σ'.length = σ.length ∧ ∀ i, C.pin i = true → σ'[i]? = σ[i]?
def OkS (C : Cc) (D : Ends) (P : Addr → Prop) (σ : L2.St) (H : Hp) (F : Fp) (o : Out Fl) : Prop :=
  match o with
  | .ok .nx ε' => ∀ σ' H' F', RepE C.K C.G H' σ' ε' F' P → Fr F H F' H' → Pin C σ σ' → D.nx σ' H'
  | .ok .bk ε' => ∀ σ' H' F', RepE C.K C.G H' σ' ε' F' P → Fr F H F' H' → Pin C σ σ' → D.bk σ' H'
  | .ok .ct ε' => ∀ σ' H' F', RepE C.K C.G H' σ' ε' F' P → Fr F H F' H' → Pin C σ σ' → D.ct σ' H'
  | .ok (.rt d) ε' => ∀ v σ' H' F' fp, RepE C.K C.G H' σ' ε' F' (fun a => P a ∨ a ∈ fp) → Fr F H F' H' → Pin C σ σ' → (∀ a ∈ fp, (∃ j, a ∈ F j) ∨ H a = none) → RepM C.K (Own F' (fun a => P a ∨ a ∈ fp)) H' C.rm d v fp → D.rt v H'
  | .exn c ε' => ∀ σ' H' F', RepE C.K C.G H' σ' ε' F' P → Fr F H F' H' → C.W c σ' H'
  | .bad => False
def tS (C : Cc) (m : S) : TS := fun D σ H => ∃ ε F P, RepE C.K C.G H σ ε F P ∧ OkS C D P σ H F (m ε)
section
variable {C : Cc} {σ σ1 : L2.St} {H H1 : Hp} {F F1 : Fp} {P : Addr → Prop} {ε : Sl} {D D' : Ends}
theorem Pin.refl : Pin C σ σ := ⟨rfl, fun _ _ => rfl⟩
theorem Pin.trans {σ2 : L2.St} (a : Pin C σ σ1) (b : Pin C σ1 σ2) : Pin C σ σ2 := ⟨b.1.trans a.1, fun i h => (b.2 i h).trans (a.2 i h)⟩
theorem grow_trans {fp : List Addr} (x : Fr F H F1 H1) (n : ∀ a ∈ fp, (∃ j, a ∈ F1 j) ∨ H1 a = none) : ∀ a ∈ fp, (∃ j, a ∈ F j) ∨ H a = none := fun a ha => by
  rcases n a ha with ⟨j, z⟩ | z
  · exact x.grow j a z
  · exact .inr (x.back z)
theorem OkS.step {o : Out Fl} (h : OkS C D P σ H F o) (x : Fr F H F1 H1) (p : Pin C σ σ1) : OkS C D P σ1 H1 F1 o := by
  cases o with
  | ok f e =>
    cases f with
    | nx => exact fun σ' H' F' R y q => h σ' H' F' R (x.trans y) (p.trans q)
    | bk => exact fun σ' H' F' R y q => h σ' H' F' R (x.trans y) (p.trans q)
    | ct => exact fun σ' H' F' R y q => h σ' H' F' R (x.trans y) (p.trans q)
    | rt d => exact fun v σ' H' F' fp R y q n r => h v σ' H' F' fp R (x.trans y) (p.trans q) (grow_trans x n) r
  | exn c e => exact fun σ' H' F' R y => h σ' H' F' R (x.trans y)
  | bad => exact h
theorem OkS.stp : Stp C σ P (OkS C D P σ) := ⟨fun H F o H1 F1 h x => OkS.step h x Pin.refl, fun H F c ε h H' F' R y => h σ H' F' R y, fun _ _ h => h⟩
/-- one statement, then the next -/
theorem OkS.seq {a b : S} (h : OkS C D P σ H F (seqS a b ε)) : OkS C { D with nx := tS C b D } P σ H F (a ε) := by
  unfold seqS bd at h
  cases e : a ε with
  | ok f e1 =>
    rw [e] at h
    cases f with
    | nx => exact fun σ' H' F' R y p => ⟨e1, F', P, R, OkS.step h y p⟩
    | bk => exact h
    | ct => exact h
    | rt d => exact h
  | exn c e1 => rw [e] at h; exact h
  | bad => rw [e] at h; exact h
end
section
variable {X : Cx} {C : Cc} {st : Stmt} {sts : List Stmt} {e t : Expr} {a b : S} {m : M D} {tm : M Bool} {pos : Pos} {md : Md}
theorem rs_nil : PSs X [] (tS C Cr.nx) := PSs.mono pss_nil fun D σ H ⟨ε, F, P, R, h⟩ => h σ H F R Fr.refl Pin.refl
theorem rs_one (h : PS X st (tS C a)) : PSs X [st] (tS C a) := pss_one h
theorem rs_cons (h : PS X st (tS C a)) (k : PSs X sts (tS C b)) : PSs X (st :: sts) (tS C (seqS a b)) := PSs.mono (pss_cons h k) fun D σ H ⟨ε, F, P, R, h⟩ => ⟨ε, F, P, R, h.seq⟩
theorem rs_never : PSs X sts (tS C badM) := ⟨fun pins s σ H D I ⟨ε, F, P, R, h⟩ => h.elim⟩
theorem rs_pass : PS X (.Pass pos) (tS C Cr.nx) := PS.mono ps_pass fun D σ H ⟨ε, F, P, R, h⟩ => h σ H F R Fr.refl Pin.refl
theorem rs_doc {x j pos pos'} : PS X (.Expr (.Constant (.str x) j pos) pos') (tS C Cr.nx) := PS.mono ps_doc fun D σ H ⟨ε, F, P, R, h⟩ => h σ H F R Fr.refl Pin.refl
theorem rs_break : PS X (.Break pos) (tS C (pu .bk)) := PS.mono ps_break fun D σ H ⟨ε, F, P, R, h⟩ => h σ H F R Fr.refl Pin.refl
theorem rs_cont : PS X (.Continue pos) (tS C (pu .ct)) := PS.mono ps_continue fun D σ H ⟨ε, F, P, R, h⟩ => h σ H F R Fr.refl Pin.refl
theorem rs_if {l r : List Stmt} (ht : PT X t (tT C tm)) (ha : PSs X l (tS C a)) (hb : PSs X r (tS C b)) : PS X (.If t l r pos) (tS C (ifS tm a b)) :=
  PS.mono (ps_if ht ha hb) fun D σ H ⟨ε, F, P, R, h⟩ => tT.imp (gT_bd OkS.stp R h) fun k H1 ⟨ε1, F1, R1, y1, h1⟩ => by
    cases k with
    | true => exact iteT ⟨ε1, F1, P, R1, h1⟩
    | false => exact iteF ⟨ε1, F1, P, R1, h1⟩
theorem rs_expr (he : PE X e (tE C m)) (hs : swapsWith e none pos.line X.env = pure false := by rfl) : PS X (.Expr e pos) (tS C (exprS m)) :=
  PS.mono (ps_expr he hs) fun D σ H ⟨ε, F, P, R, h⟩ => tE.imp (gE_bd OkS.stp R h) fun v H1 ⟨d, ε1, F1, R1, y1, r1, h1⟩ => h1 σ H1 F1 R1 Fr.refl Pin.refl
theorem own_nil {F : Fp} {P : Addr → Prop} : ∀ a, Own F (fun a => P a ∨ a ∈ ([] : List Addr)) a ↔ Own F P a := fun a => by simp [Own]
theorem RepE.nilP {K : PySem.W.Frag} {G : Nat → Md} {H : Hp} {σ : L2.St} {ε : Sl} {F : Fp} {P : Addr → Prop} (R : RepE K G H σ ε F P) : RepE K G H σ ε F (fun a => P a ∨ a ∈ ([] : List Addr)) := by
  have e : (fun a => P a ∨ a ∈ ([] : List Addr)) = P := by funext a; simp
  rw [e]
  exact R
theorem Rep.nilP {K : PySem.W.Frag} {H : Hp} {F : Fp} {P : Addr → Prop} {d : D} {v : V} (r : Rep K (Own F P) H d v) : Rep K (Own F (fun a => P a ∨ a ∈ ([] : List Addr))) H d v := r.weak fun a z => (own_nil a).mp z
theorem rs_ret (hr : C.rm = .dat) (he : PE X e (tE C m)) : PS X (.Return (some e) pos) (tS C (retS m)) :=
  PS.mono (ps_ret he) fun D σ H ⟨ε, F, P, R, h⟩ => tE.imp (gE_bd OkS.stp R h) fun v H1 ⟨d, ε1, F1, R1, y1, r1, h1⟩ =>
    h1 v σ H1 F1 [] R1.nilP Fr.refl Pin.refl (fun a ha => by cases ha) (by rw [hr]; exact ⟨rfl, r1.nilP⟩)
theorem OkS.retF {σ : L2.St} {H : Hp} {F : Fp} {P : Addr → Prop} {ε : Sl} {D : Ends} (h : OkS C D P σ H F (retS m ε)) : OkF C C.rm σ D.rt P H F (m ε) := by
  unfold retS bd at h
  cases e : m ε with
  | ok d e1 =>
    rw [e] at h
    exact fun v H' F' fp R y n r => h v σ H' F' fp R y Pin.refl (fun a ha => .inr (n a ha)) r
  | exn c e1 => rw [e] at h; exact fun H' F' R y => h σ H' F' R y
  | bad => rw [e] at h; exact h
theorem rs_retF (he : PE X e (tF C C.rm m)) : PS X (.Return (some e) pos) (tS C (retS m)) :=
  PS.mono (ps_ret he) fun D σ H ⟨ε, F, P, R, h⟩ => ⟨ε, F, P, R, h.retF⟩
theorem rs_retN (hr : C.rm = .dat) : PS X (.Return none pos) (tS C (retS (cst .non))) :=
  PS.mono ps_retN fun D σ H ⟨ε, F, P, R, h⟩ => h .non σ H F [] R.nilP Fr.refl Pin.refl (fun a ha => by cases ha) (by rw [hr]; exact ⟨rfl, rfl⟩)
/-- what slot i owned is let go -/
def Fset (F : Fp) (i : Nat) (fp : List Addr) : Fp := fun j => if j = i then fp else F j
theorem Fset_same {F : Fp} {i : Nat} {fp : List Addr} : Fset F i fp i = fp := by unfold Fset; rw [if_pos rfl]
theorem Fset_ne {F : Fp} {i j : Nat} {fp : List Addr} (h : j ≠ i) : Fset F i fp j = F j := by unfold Fset; rw [if_neg h]
/-- a slot gets a value: what it owned before is let go, what was kept apart for it is its own -/
theorem RepE.put {K : PySem.W.Frag} {G : Nat → Md} {H : Hp} {σ : L2.St} {ε : Sl} {F : Fp} {P : Addr → Prop} {i : Nat} {d : D} {v : V} {fp : List Addr} (R : RepE K G H σ ε F (fun a => P a ∨ a ∈ fp)) (hP : ∀ a ∈ fp, ¬ P a)
    (r : RepM K (Own F (fun a => P a ∨ a ∈ fp)) H (G i) d v fp) (hi : i < ε.length) : RepE K G H (σ.set i (some v)) (ε.set i (some d)) (Fset F i fp) P := by
  have g : Grows (Own F (fun a => P a ∨ a ∈ fp)) (Own (Fset F i fp) P) H := by
    rintro a (z | ⟨j, z⟩)
    · exact .inl (.inl (.inl z))
    · by_cases e : j = i
      · subst e
        rw [Fset_same] at z
        exact .inl (.inl (.inr z))
      · rw [Fset_ne e] at z
        exact .inl (.inr ⟨j, z⟩)
  have hi' : i < σ.length := by rw [← R.len]; exact hi
  refine ⟨by simp [R.len], fun j x e => ?_, fun j no => ?_, fun j k a h h' => ?_, fun j a h z => ?_, fun a z => (g a z).elim (R.dom a) fun q => ?_⟩
  · by_cases ej : j = i
    · subst ej
      rw [List.getElem?_set_self hi] at e
      have : x = d := (Option.some.inj (Option.some.inj e)).symm
      subst this
      refine ⟨v, by rw [List.getElem?_set_self hi'], ?_⟩
      rw [Fset_same]
      exact r.move Keeps.rfl' g fun _ _ _ h => h
    · rw [List.getElem?_set_ne (Ne.symm ej)] at e
      obtain ⟨u, hu, q⟩ := R.val j x e
      refine ⟨u, by rw [List.getElem?_set_ne (Ne.symm ej)]; exact hu, ?_⟩
      rw [Fset_ne ej]
      exact q.move Keeps.rfl' g fun _ _ _ h => h
  · by_cases ej : j = i
    · subst ej
      exact absurd (List.getElem?_set_self hi) (no d)
    · rw [Fset_ne ej]
      refine R.non j fun x => ?_
      have := no x
      rwa [List.getElem?_set_ne (Ne.symm ej)] at this
  · by_cases ej : j = i
    · by_cases ek : k = i
      · rw [ej, ek]
      · subst ej
        rw [Fset_same] at h
        rw [Fset_ne ek] at h'
        exact (R.out k a h' (.inr h)).elim
    · by_cases ek : k = i
      · subst ek
        rw [Fset_same] at h'
        rw [Fset_ne ej] at h
        exact (R.out j a h (.inr h')).elim
      · rw [Fset_ne ej] at h
        rw [Fset_ne ek] at h'
        exact R.sep j k a h h'
  · by_cases ej : j = i
    · subst ej
      rw [Fset_same] at h
      exact hP a h z
    · rw [Fset_ne ej] at h
      exact R.out j a h (.inl z)
  · rcases z with z | ⟨j, z⟩
    · exact R.dom a (.inl (.inl z))
    · by_cases ej : j = i
      · subst ej
        rw [Fset_same] at z
        exact R.dom a (.inl (.inr z))
      · rw [Fset_ne ej] at z
        exact R.dom a (.inr ⟨j, z⟩)
theorem Fr.put {F : Fp} {H : Hp} {F' : Fp} {H' : Hp} {i : Nat} {fp : List Addr} (x : Fr F H F' H') (n : ∀ a ∈ fp, H a = none) : Fr F H (Fset F' i fp) H' :=
  ⟨x.keep, fun j a z => by
    by_cases e : j = i
    · subst e; rw [Fset_same] at z; exact .inr (n a z)
    · rw [Fset_ne e] at z; exact x.grow j a z, x.live⟩
theorem pin_set {σ : L2.St} {i : Nat} {x : Option V} (hp : C.pin i = false) : Pin C σ (σ.set i x) := ⟨by simp, fun j h => by
  by_cases e : j = i
  · subst e; rw [hp] at h; cases h
  · exact List.getElem?_set_ne (Ne.symm e)⟩
/-- x = e, e data -/
theorem asg_run {i : Nat} (hG : C.G i = .dat) (hp : C.pin i = false) {D : Ends} {σ : L2.St} {H : Hp} (h : tS C (asg m (tgN i)) D σ H) : tAsg (tE C m) (gName i) D σ H := by
  obtain ⟨ε, F, P, R, h⟩ := h
  refine tE.imp (gE_bd OkS.stp R h) fun v H1 ⟨d, ε1, F1, R1, y1, r1, h1⟩ => ?_
  unfold stT tgN at h1
  by_cases hi : i < ε1.length
  · rw [if_pos hi] at h1
    exact h1 _ H1 _ (RepE.put R1.nilP (fun a ha => by cases ha) (by rw [hG]; exact ⟨rfl, r1.nilP⟩) hi) (Fr.put Fr.refl fun a ha => by cases ha) (pin_set hp)
  · rw [if_neg hi] at h1
    exact h1.elim
/-- x = e, e new, x its owner -/
theorem asgF_run {i : Nat} (hp : C.pin i = false) {D : Ends} {σ : L2.St} {H : Hp} (h : tS C (asg m (tgN i)) D σ H) : tAsg (tF C (C.G i) m) (gName i) D σ H := by
  obtain ⟨ε, F, P, R, h⟩ := h
  refine ⟨ε, F, P, R, ?_⟩
  unfold asg bd at h
  cases e : m ε with
  | ok d e1 =>
    rw [e] at h
    simp only [stT, tgN] at h
    by_cases hi : i < e1.length
    · rw [if_pos hi] at h
      intro v H' F' fp R' y n r
      refine h _ H' _ (RepE.put R' (fun a ha z => R.dom a (.inl z) (n a ha)) r hi) (y.put n) (pin_set hp)
    · rw [if_neg hi] at h
      exact h.elim
  | exn c e1 => rw [e] at h; exact fun H' F' R y => h σ H' F' R y
  | bad => rw [e] at h; exact h
theorem rs_asg {i : Nat} (hG : C.G i = .dat) (hp : C.pin i = false) (h : PS X st (tAsg (tE C m) (gName i))) : PS X st (tS C (asg m (tgN i))) := PS.mono h fun D σ H h => asg_run hG hp h
theorem rs_asgF {i : Nat} {md : Md} (hG : C.G i = md) (hp : C.pin i = false) (h : PS X st (tAsg (tF C md m) (gName i))) : PS X st (tS C (asg m (tgN i))) := by
  subst hG
  exact PS.mono h fun D σ H q => asgF_run hp q
end
end Lk

end
section
set_option maxRecDepth 100000
set_option maxHeartbeats 4000000
/-! Lk6: targets, loops. -/
namespace Lk
open PySem PySem.Spec PyProof.Rows L2 Cr
/-! ### targets -/
/-- the wish behind a store -/
def OkT (C : Cc) (P : Addr → Prop) (σ : L2.St) (Q : L2.St → Hp → Prop) (H : Hp) (F : Fp) (o : Option Sl) : Prop :=
  ∃ ε', o = some ε' ∧ ∀ σ' H' F', RepE C.K C.G H' σ' ε' F' P → Fr F H F' H' → Pin C σ σ' → Q σ' H'
def tG (C : Cc) (t : Tg) : TG := fun v σ H Q => ∃ d ε F P, RepE C.K C.G H σ ε F P ∧ Rep C.K (Own F P) H d v ∧ OkT C P σ Q H F (t d ε)
def tGs (C : Cc) (ts : List Tg) : TGs := fun vs σ H Q => ∃ ds ε F P, RepE C.K C.G H σ ε F P ∧ RepL C.K (Own F P) H ds vs ∧ OkT C P σ Q H F (tgs ts ds ε)
section
variable {X : Cx} {e : Expr} {es : List Expr} {C : Cc}
theorem PG.mono {t t' : TG} (h : PG X e t) (m : ∀ v σ H Q, t' v σ H Q → t v σ H Q) : PG X e t' := ⟨fun pins s σ H v u Q I r q => h.run pins s σ H v u Q I r (m _ _ _ _ q)⟩
theorem PGs.mono {t t' : TGs} (h : PGs X es t) (m : ∀ v σ H Q, t' v σ H Q → t v σ H Q) : PGs X es t' := ⟨fun pins s σ H v u Q I r q => h.run pins s σ H v u Q I r (m _ _ _ _ q)⟩
theorem rg_name {i : Nat} (hG : C.G i = .dat) (hp : C.pin i = false) (h : PG X e (gName i)) : PG X e (tG C (tgN i)) := PG.mono h fun v σ H Q ⟨d, ε, F, P, R, r, ε', q, k⟩ => by
  unfold tgN at q
  by_cases hi : i < ε.length
  · rw [if_pos hi] at q
    cases q
    exact k _ H _ (RepE.put R.nilP (fun a ha => by cases ha) (by rw [hG]; exact ⟨rfl, r.nilP⟩) hi) (Fr.put Fr.refl fun a ha => by cases ha) (pin_set hp)
  · rw [if_neg hi] at q
    cases q
theorem rgs_nil : PGs X [] (tGs C []) := PGs.mono pgs_nil fun vs σ H Q ⟨ds, ε, F, P, R, r, ε', q, k⟩ => by
  cases ds with
  | nil => cases q; exact ⟨r, k σ H F R Fr.refl Pin.refl⟩
  | cons d ds => cases q
theorem rgs_cons {t : Tg} {ts : List Tg} (h1 : PG X e (tG C t)) (h2 : PGs X es (tGs C ts))
    (hs : (assignEach (e :: es) X.env).map (·.2) = assign e X.env :: (assignEach es X.env).map (·.2) := by rfl) : PGs X (e :: es) (tGs C (t :: ts)) := PGs.mono (pgs_cons h1 h2 hs) fun vs σ H Q ⟨ds, ε, F, P, R, r, ε', q, k⟩ => by
  cases ds with
  | nil => cases q
  | cons d ds =>
    obtain ⟨v, vr, rfl, r1, r2⟩ := r
    unfold tgs at q
    cases e1 : t d ε with
    | none => rw [e1] at q; cases q
    | some ε1 =>
      rw [e1] at q
      exact ⟨v, vr, rfl, d, ε, F, P, R, r1, ε1, e1, fun σ1 H1 F1 R1 y1 p1 => ⟨ds, ε1, F1, P, R1, y1.repL r2, ε', q, fun σ2 H2 F2 R2 y2 p2 => k σ2 H2 F2 R2 (y1.trans y2) (p1.trans p2)⟩⟩
theorem tgs_len : ∀ {ts : List Tg} {ds : List D} {ε ε' : Sl}, tgs ts ds ε = some ε' → ds.length = ts.length
  | [], [], _, _, _ => rfl
  | t :: ts, d :: ds, ε, ε', h => by
    unfold tgs at h
    cases e : t d ε with
    | some e1 =>
      rw [e] at h
      simp [tgs_len h]
    | none => rw [e] at h; cases h
  | [], _ :: _, _, _, h => by simp [tgs] at h
  | _ :: _, [], _, _, h => by simp [tgs] at h
theorem rg_tup {ts : List Tg} {k : Nat} {n : Nat} {pos : Pos} (hc : X.calm = true) (h : PGs X es (tGs C ts)) (hX : X.K = C.K) (hn : (assignEach es X.env).length = n := by rfl) (hst : (assignEach es X.env).findIdx? (·.1) = none := by rfl) (hl : ts.length = n := by rfl) :
    PG X (.Tuple es k pos) (tG C (tgT ts)) := PG.mono (pg_tup hc h hn hst) fun v σ H Q ⟨d, ε, F, P, R, r, ε', q, k⟩ => by
  cases d with
  | tup ds =>
    obtain ⟨a, vs, rfl, t, l⟩ := r
    exact ⟨a, vs, rfl, by rw [hX]; exact t.sq, by rw [l.length, ← hl]; exact tgs_len q, ds, ε, F, P, R, l, ε', q, k⟩
  | _ => cases q
theorem stT_run {D : Ends} {P : Addr → Prop} {σ : L2.St} {H : Hp} {F : Fp} {o : Sl → Option Sl} {ε : Sl} (h : OkS C D P σ H F (stT o .nx ε)) : OkT C P σ D.nx H F (o ε) := by
  unfold stT at h
  cases e : o ε with
  | some e1 => rw [e] at h; exact ⟨e1, rfl, h⟩
  | none => rw [e] at h; exact h.elim
/-- target = e -/
theorem rs_asgT {st : Stmt} {m : M D} {t : Tg} (h : PS X st (tAsg (tE C m) (tG C t))) : PS X st (tS C (asg m t)) := PS.mono h fun D σ H ⟨ε, F, P, R, h⟩ =>
  tE.imp (gE_bd OkS.stp R h) fun v H1 ⟨d, ε1, F1, R1, y1, r1, h1⟩ => ⟨d, ε1, F1, P, R1, r1, stT_run h1⟩
end
/-! ### what is walked -/
/-- the iterator J gives out what ds says, while what lies outside O stands -/
def Walks (K : PySem.W.Frag) (J : It) (H : Hp) (O : Addr → Prop) (ds : List D) : Prop := ∀ (H1 : Hp) (O1 : Addr → Prop), Keeps O H H1 → Grows O O1 H → (∀ a, O1 a → H1 a ≠ none) → ∀ i,
  (∀ d, ds[i]? = some d → J.go i H1 ∧ ∀ x H', J.yld i H1 x H' → (∀ a o, H1 a = some o → H' a = some o) ∧ Rep K O1 H' d x) ∧ (ds.length ≤ i → J.stop i H1)
def OkI (C : Cc) (P : Addr → Prop) (σ : L2.St) (R : It → Hp → Prop) (H : Hp) (F : Fp) (o : Out (List D)) : Prop :=
  match o with
  | .ok ds ε' => ∀ J H' F', RepE C.K C.G H' σ ε' F' P → Fr F H F' H' → Walks C.K J H' (Own F' P) ds → R J H'
  | .exn c ε' => ∀ H' F', RepE C.K C.G H' σ ε' F' P → Fr F H F' H' → C.W c σ H'
  | .bad => False
def tI (C : Cc) (m : M (List D)) : TI := fun σ H R => ∃ ε F P, RepE C.K C.G H σ ε F P ∧ OkI C P σ R H F (m ε)
theorem OkI.stp {C : Cc} {P : Addr → Prop} {σ : L2.St} {R : It → Hp → Prop} : Stp C σ P (OkI C P σ R) := by
  refine ⟨fun H F o H1 F1 h x => ?_, fun _ _ _ _ h => h, fun _ _ h => h⟩
  cases o with
  | ok d e => exact fun J H' F' R y w => h J H' F' R (x.trans y) w
  | exn c e => exact fun H' F' R y => h H' F' R (x.trans y)
  | bad => exact h
section
variable {X : Cx} {e t : Expr} {es : List Expr} {C : Cc}
theorem PI.mono {w w' : TI} (h : PI X t e w) (m : ∀ σ H R, w' σ H R → w σ H R) : PI X t e w' := ⟨fun pins s σ H R I q => h.run pins s σ H R I (m _ _ _ q)⟩
theorem walks_list {K : PySem.W.Frag} {H : Hp} {O : Addr → Prop} {a : Addr} {vs : List V} {ds : List D} (hl : LstA K O H a vs) (r : RepL K O H ds vs) : Walks K (Itl K a) H O ds := fun H1 O1 k g dm i => by
  have q : SqL K H1 a vs := (hl.move k g).sq
  have r1 : RepL K O1 H1 ds vs := RepL.move k g _ _ r
  refine ⟨fun d hd => ?_, fun hn => ⟨vs, q, by rw [r.length]; exact hn⟩⟩
  obtain ⟨v, hv, rv⟩ := r1.get hd
  refine ⟨⟨vs, v, q, hv⟩, fun x H' ⟨e, y⟩ => ?_⟩
  subst e
  have : v = x := Option.some.inj (hv.symm.trans (y vs q))
  subst this
  exact ⟨fun _ _ h => h, rv⟩
theorem walks_tup {K : PySem.W.Frag} {H : Hp} {O : Addr → Prop} {a : Addr} {vs : List V} {ds : List D} (hl : TupA K O H a vs) (r : RepL K O H ds vs) : Walks K (Itt K a) H O ds := fun H1 O1 k g dm i => by
  have q : SqT K H1 a vs := (hl.move k g).sq
  have r1 : RepL K O1 H1 ds vs := RepL.move k g _ _ r
  refine ⟨fun d hd => ?_, fun hn => ⟨vs, q, by rw [r.length]; exact hn⟩⟩
  obtain ⟨v, hv, rv⟩ := r1.get hd
  refine ⟨⟨vs, v, q, hv⟩, fun x H' ⟨e, y⟩ => ?_⟩
  subst e
  have : v = x := Option.some.inj (hv.symm.trans (y vs q))
  subst this
  exact ⟨fun _ _ h => h, rv⟩
end
end Lk

end
section
set_option maxRecDepth 100000
set_option maxHeartbeats 4000000
/-! Lk7: loops, comprehensions. -/
namespace Lk
open PySem PySem.Spec PyProof.Rows L2 Cr
section
variable {X : Cx} {tg l : Expr} {C : Cc}
/-- a list or a tuple that is walked -/
def iSeq (K : PySem.W.Frag) (tl : TE) : TI := fun σ H R => tl σ H fun x H1 => ∃ a, x = .ref a ∧ (((∃ xs, SqL K H1 a xs) ∧ R (Itl K a) H1) ∨ ((∃ xs, SqT K H1 a xs) ∧ R (Itt K a) H1))
theorem pi_seq {tl : TE} (hl : PE X l tl) : PI X tg l (iSeq X.K tl) := by
  refine ⟨fun pins s σ H R I h => ?_⟩
  refine thn (hl.run pins s σ H _ I h) fun v s1 ⟨x, H1, I1, r1, q1⟩ => ?_
  obtain ⟨a, e, q⟩ := q1
  subst e
  cases r1
  rcases q with ⟨⟨xs, hq⟩, q⟩ | ⟨⟨xs, hq⟩, q⟩
  · obtain ⟨its, rv, p, hz⟩ := I1.list hq
    refine wpAny_pyIter_list p.isList ?_
    refine ⟨s1.heap.objs.size, [s1.heap.objs.size], _, _, H1, rfl, I1.kept (t' := s1.toks) fun b o e => Heap.get?_push_of_some _ e, turn_list a _, ⟨_, Heap.get?_push_size _ rfl, rfl, rfl⟩, fun b hb => ?_, q⟩
    have e : b = s1.heap.objs.size := by simpa using hb
    subst e
    exact I1.fpOk (Nat.le_refl _) (I1.hok.fresh (Nat.le_refl _))
  · obtain ⟨its, rv, p, hz⟩ := I1.tuple hq
    refine wpAny_pyIter_tuple (show s1.heap.IsTuple a its.toArray from p) ?_
    refine ⟨s1.heap.objs.size, [s1.heap.objs.size], _, _, H1, rfl, I1.kept (t' := s1.toks) fun b o e => Heap.get?_push_of_some _ e, turn_tuple a _, ⟨_, Heap.get?_push_size _ rfl, rfl, rfl⟩, fun b hb => ?_, q⟩
    have e : b = s1.heap.objs.size := by simpa using hb
    subst e
    exact I1.fpOk (Nat.le_refl _) (I1.hok.fresh (Nat.le_refl _))
theorem OkI.opt {P : Addr → Prop} {σ : L2.St} {R : It → Hp → Prop} {H : Hp} {F : Fp} {o : Option (List D)} {ε : Sl} (h : OkI C P σ R H F (Cr.opt o ε)) (Re : RepE C.K C.G H σ ε F P) :
    ∃ ds, o = some ds ∧ ∀ J, Walks C.K J H (Own F P) ds → R J H := by
  cases o with
  | none => exact h.elim
  | some ds => exact ⟨ds, rfl, fun J w => h J H F Re Fr.refl w⟩
theorem ri_seq {m : M D} (hX : X.K = C.K) (h : PE X l (tE C m)) : PI X tg l (tI C (itE m)) := PI.mono (pi_seq h) fun σ H R ⟨ε, F, P, Re, q⟩ =>
  tE.imp (gE_bd OkI.stp Re q) fun v H1 ⟨d, ε1, F1, R1, y1, r1, h1⟩ => by
    obtain ⟨ds, e, k⟩ := OkI.opt h1 R1
    rw [hX]
    cases d with
    | lst xs =>
      cases e
      obtain ⟨a, vs, rfl, t, rl⟩ := r1
      exact ⟨a, rfl, .inl ⟨⟨vs, t.sq⟩, k _ (walks_list t rl)⟩⟩
    | tup xs =>
      cases e
      obtain ⟨a, vs, rfl, t, rl⟩ := r1
      exact ⟨a, rfl, .inr ⟨⟨vs, t.sq⟩, k _ (walks_tup t rl)⟩⟩
    | _ => cases e
theorem walks_range {K : PySem.W.Frag} {H : Hp} {O : Addr → Prop} {lo : Int} {n : Nat} : Walks K (Itr lo n) H O (rangeD lo n) := fun H1 O1 k g dm i => by
  unfold rangeD
  refine ⟨fun d hd => ?_, fun hn => ?_⟩
  · rw [List.getElem?_map] at hd
    cases e : (List.range n)[i]? with
    | none => rw [e] at hd; cases hd
    | some j =>
      rw [e] at hd
      obtain ⟨hi, ej⟩ := List.getElem?_eq_some_iff.mp e
      simp at hi
      have : j = i := by rw [← ej]; simp
      subst this
      have ed : D.int (lo + (j : Int)) = d := Option.some.inj hd
      subst ed
      exact ⟨hi, fun x H' ⟨e1, e2⟩ => by subst e1; exact ⟨fun _ _ h => h, e2⟩⟩
  · show n ≤ i
    simpa using hn
theorem ri_rng1 {a : Expr} {as : List Opd} {p pos : Pos} (hg : Gl X "range") (hm : X.mg "range" = none) (ha : PA X [a] (tAs C as)) (hs : starEach [a] X.env = [(false, eval a X.env)] := by rfl) : PI X tg (.Call (.Name "range" p) [a] [] pos) (tI C (itR rng1 as)) :=
  PI.mono (pi_range1 hg hm ha hs) fun σ H R ⟨ε, F, P, Re, q⟩ => tAs.imp _ (gopds OkI.stp Re q) fun vs H1 ⟨ds, ε1, F1, R1, y1, A, h1⟩ => by
    obtain ⟨xs, e, k⟩ := OkI.opt h1 R1
    have w := A.wl R1
    unfold rng1 at e
    split at e
    · rename_i n
      split at e
      · rename_i hn
        cases e
        cases w with
        | cons r1 w =>
          cases w
          have z : (2 : Int) ^ 62 = 4611686018427387904 := by decide
          exact ⟨n, by rw [show _ = V.int n from r1], by omega, by omega, k _ walks_range⟩
      · cases e
    · cases e
theorem ri_rng2 {a b : Expr} {as : List Opd} {p pos : Pos} (hg : Gl X "range") (hm : X.mg "range" = none) (ha : PA X [a, b] (tAs C as)) (hs : starEach [a, b] X.env = [(false, eval a X.env), (false, eval b X.env)] := by rfl) (hs2 : starEach [b] X.env = [(false, eval b X.env)] := by rfl) :
    PI X tg (.Call (.Name "range" p) [a, b] [] pos) (tI C (itR rng2 as)) :=
  PI.mono (pi_range2 hg hm ha hs hs2) fun σ H R ⟨ε, F, P, Re, q⟩ => tAs.imp _ (gopds OkI.stp Re q) fun vs H1 ⟨ds, ε1, F1, R1, y1, A, h1⟩ => by
    obtain ⟨xs, e, k⟩ := OkI.opt h1 R1
    have w := A.wl R1
    unfold rng2 at e
    split at e
    · rename_i lo hi
      split at e
      · rename_i hn
        cases e
        cases w with
        | cons r1 w =>
          cases w with
          | cons r2 w =>
            cases w
            have z : (2 : Int) ^ 62 = 4611686018427387904 := by decide
            exact ⟨lo, hi, by rw [show _ = V.int lo from r1, show _ = V.int hi from r2], ⟨by omega, by omega, by omega, by omega⟩, k _ walks_range⟩
      · cases e
    · cases e
end
/-! ### for, while -/
section
variable {C : Cc} {σ : L2.St} {H : Hp} {F : Fp} {P : Addr → Prop} {D : Ends}
theorem OkS.body {b L : S} {N : L2.St → Hp → Prop} {ε : Sl} (h : OkS C D P σ H F (bd b (fun f => match f with | .nx => L | .ct => L | .bk => Cr.nx | .rt r => pu (.rt r)) ε))
    (hN : ∀ e σ' H' F', RepE C.K C.G H' σ' e F' P → Fr F H F' H' → Pin C σ σ' → OkS C D P σ' H' F' (L e) → N σ' H') : OkS C { D with nx := N, ct := N, bk := D.nx } P σ H F (b ε) := by
  unfold bd at h
  cases e : b ε with
  | ok f e1 =>
    rw [e] at h
    cases f with
    | nx => exact fun σ' H' F' R y p => hN e1 σ' H' F' R y p (OkS.step h y p)
    | ct => exact fun σ' H' F' R y p => hN e1 σ' H' F' R y p (OkS.step h y p)
    | bk => exact h
    | rt d => exact h
  | exn c e1 => rw [e] at h; exact h
  | bad => rw [e] at h; exact h
variable {X : Cx} {pos : Pos} {tg iter test : Expr} {body : List Stmt} {it : M (List Cr.D)} {t : Tg} {b : S} {tm : M Bool}
theorem loop_run {J : It} {ds : List Cr.D} {ε : Sl} (R : RepE C.K C.G H σ ε F P) (w : Walks C.K J H (Own F P) ds) (h : OkS C D P σ H F (loop t b ds ε)) :
    ∃ W : Nat → Nat → L2.St → Hp → Prop, (∃ m, W 0 m σ H) ∧ ∀ i m σ H, W i m σ H →
      (J.stop i H ∧ D.nx σ H) ∨ (J.go i H ∧ ∃ N : L2.St → Hp → Prop, (∀ σ' H', N σ' H' → ∃ m', m' < m ∧ W (i + 1) m' σ' H') ∧ ∀ x H', J.yld i H x H' → tG C t x σ H' fun σ2 H2 => tS C b { D with nx := N, ct := N, bk := D.nx } σ2 H2) := by
  refine ⟨fun i m σ' H' => m = ds.length - i ∧ i ≤ ds.length ∧ ∃ e F', RepE C.K C.G H' σ' e F' P ∧ Fr F H F' H' ∧ Pin C σ σ' ∧ OkS C D P σ' H' F' (loop t b (ds.drop i) e), ⟨ds.length, by simp, Nat.zero_le _, ε, F, R, Fr.refl, Pin.refl, by simpa using h⟩, ?_⟩
  rintro i m σ1 H1 ⟨rfl, hi, e, F1, R1, y1, p1, q⟩
  have ww := w H1 (Own F1 P) y1.keeps y1.grows R1.dom i
  by_cases hlt : i < ds.length
  · have hd : ds[i]? = some ds[i] := List.getElem?_eq_getElem hlt
    obtain ⟨go, yl⟩ := ww.1 _ hd
    refine .inr ⟨go, fun σ' H' => ds.length - (i + 1) < ds.length - i ∧ i + 1 ≤ ds.length ∧ ∃ e F', RepE C.K C.G H' σ' e F' P ∧ Fr F H F' H' ∧ Pin C σ σ' ∧ OkS C D P σ' H' F' (loop t b (ds.drop (i + 1)) e),
      fun σ' H' n => ⟨ds.length - (i + 1), n.1, rfl, n.2⟩, fun x H' hy => ?_⟩
    obtain ⟨ext, r⟩ := yl x H' hy
    rw [List.drop_eq_getElem_cons hlt] at q
    refine ⟨ds[i], e, F1, P, R1.grow ext, r, ?_⟩
    unfold loop bd stT at q
    cases et : t ds[i] e with
    | none => simp only [et] at q; exact q.elim
    | some e1 =>
      simp only [et] at q
      refine ⟨e1, rfl, fun σ2 H2 F2 R2 y2 p2 => ⟨e1, F2, P, R2, ?_⟩⟩
      have y3 : Fr F1 H1 F2 H2 := (Fr.ext ext).trans y2
      refine OkS.body (OkS.step q y3 p2) fun e3 σ3 H3 F3 R3 y4 p4 q3 => ?_
      exact ⟨by omega, hlt, e3, F3, R3, (y1.trans y3).trans y4, (p1.trans p2).trans p4, q3⟩
  · have e0 : i = ds.length := by omega
    refine .inl ⟨ww.2 (by omega), ?_⟩
    rw [List.drop_of_length_le (by omega)] at q
    exact q σ1 H1 F1 R1 Fr.refl Pin.refl
theorem rs_for (hp : PassesOwn (model X.prog X.w) X.A X.env X.xe) (hc : X.calm = true) (hi : PI X tg iter (tI C it)) (hg : PG X tg (tG C t)) (hb : PSs X body (tS C b)) (hs : ∀ x, foldedSetIterable iter X.env x = pure x := by intro _; rfl) :
    PS X (.For tg iter body [] pos) (tS C (forS it t b)) := PS.mono (ps_for hp hc hi hg hb hs) fun D σ H ⟨ε, F, P, R, h⟩ => by
  refine ⟨ε, F, P, R, ?_⟩
  unfold forS bd at h
  cases e : it ε with
  | ok ds e1 =>
    rw [e] at h
    exact fun J H' F' R' y w => loop_run R' w (OkS.step h y Pin.refl)
  | exn c e1 => rw [e] at h; exact fun H' F' R' y => h σ H' F' R' y
  | bad => rw [e] at h; exact h
theorem rs_while {n : Nat} (hp : PassesOwn (model X.prog X.w) X.A X.env X.xe) (hc : PT X test (tT C tm)) (hb : PSs X body (tS C b)) : PS X (.While test body [] pos) (tS C (whileN n tm b)) := PS.mono (ps_while hp hc hb) fun D σ H ⟨ε, F, P, R, h⟩ => by
  refine ⟨fun m σ' H' => ∃ e F', RepE C.K C.G H' σ' e F' P ∧ Fr F H F' H' ∧ Pin C σ σ' ∧ OkS C D P σ' H' F' (whileN m tm b e), ⟨n, ε, F, R, Fr.refl, Pin.refl, h⟩, ?_⟩
  rintro m σ1 H1 ⟨e, F1, R1, y1, p1, q⟩
  cases m with
  | zero => exact q.elim
  | succ m =>
    unfold whileN at q
    refine tT.imp (gT_bd OkS.stp R1 q) fun k H2 ⟨e2, F2, R2, y2, h2⟩ => ?_
    cases k with
    | false => exact iteF (h2 σ1 H2 F2 R2 Fr.refl Pin.refl)
    | true =>
      refine iteT ⟨fun σ' H' => ∃ e F', RepE C.K C.G H' σ' e F' P ∧ Fr F H F' H' ∧ Pin C σ σ' ∧ OkS C D P σ' H' F' (whileN m tm b e), fun σ' H' n => ⟨m, Nat.lt_succ_self m, n⟩, e2, F2, P, R2, ?_⟩
      exact OkS.body h2 fun e3 σ3 H3 F3 R3 y3 p3 q3 => ⟨e3, F3, R3, (y1.trans y2).trans y3, p1.trans p3, q3⟩
end
/-! ### comprehensions -/
/-- the context of a comprehension's block -/
def Cc.blk (C : Cc) (vs : List Nat) : Cc := { C with W := fun _ _ _ => False, pin := fun i => !(vs.contains i) }
section
variable {K : PySem.W.Frag} {G : Nat → Md} {H : Hp} {σ σ' : L2.St} {ε ε' : Sl} {F : Fp} {P : Addr → Prop}
theorem RepE.unset (R : RepE K G H σ ε F P) {v : Nat} (hG : G v = .dat) : RepE K G H (σ.set v none) (ε.set v none) F P := by
  refine ⟨by simp [R.len], fun i d e => ?_, fun i no => ?_, R.sep, R.out, R.dom⟩
  · by_cases ei : i = v
    · subst ei
      by_cases hv : i < ε.length
      · rw [List.getElem?_set_self hv] at e; cases e
      · rw [List.getElem?_eq_none (by simp; omega)] at e; cases e
    · rw [List.getElem?_set_ne (Ne.symm ei)] at e
      obtain ⟨u, hu, r⟩ := R.val i d e
      exact ⟨u, by rw [List.getElem?_set_ne (Ne.symm ei)]; exact hu, r⟩
  · by_cases ei : i = v
    · subst ei
      by_cases z : ∃ d, ε[i]? = some (some d)
      · obtain ⟨d, hd⟩ := z
        obtain ⟨u, hu, r⟩ := R.val i d hd
        rw [hG] at r
        exact r.1
      · exact R.non i fun d hd => z ⟨d, hd⟩
    · refine R.non i fun d => ?_
      have := no d
      rwa [List.getElem?_set_ne (Ne.symm ei)] at this
theorem RepE.wipe (R : RepE K G H σ ε F P) : ∀ {vs : List Nat}, (∀ v ∈ vs, G v = .dat) → RepE K G H (L2.wipe σ vs) (wipeE ε vs) F P
  | [], _ => R
  | v :: vs, h => (RepE.wipe R fun u hu => h u (List.mem_cons_of_mem _ hu)).unset (h v List.mem_cons_self)
theorem wipe_get : ∀ {vs : List Nat} {σ : L2.St} {i : Nat}, i ∉ vs → (L2.wipe σ vs)[i]? = σ[i]?
  | [], _, _, _ => rfl
  | v :: vs, σ, i, h => by
    simp only [List.mem_cons, not_or] at h
    unfold L2.wipe
    rw [List.getElem?_set_ne (Ne.symm h.1), wipe_get h.2]
theorem wipe_len : ∀ {vs : List Nat} {σ : L2.St}, (L2.wipe σ vs).length = σ.length
  | [], _ => rfl
  | v :: vs, σ => by unfold L2.wipe; rw [List.length_set, wipe_len]
theorem wipe_in : ∀ {vs : List Nat} {σ : L2.St} {i : Nat}, i ∈ vs → i < σ.length → (L2.wipe σ vs)[i]? = some none
  | v :: vs, σ, i, h, hi => by
    unfold L2.wipe
    by_cases e : v = i
    · subst e
      exact List.getElem?_set_self (by rw [wipe_len]; exact hi)
    · rw [List.getElem?_set_ne e]
      simp only [List.mem_cons] at h
      exact wipe_in (h.resolve_left (Ne.symm e)) hi
theorem wipe_ext {vs : List Nat} {σ σ' : L2.St} (hl : σ'.length = σ.length) (h : ∀ i, i ∉ vs → σ'[i]? = σ[i]?) : L2.wipe σ' vs = L2.wipe σ vs := by
  apply List.ext_getElem?
  intro i
  by_cases m : i ∈ vs
  · by_cases hi : i < σ.length
    · rw [wipe_in m hi, wipe_in m (by omega)]
    · rw [List.getElem?_eq_none (by rw [wipe_len]; omega), List.getElem?_eq_none (by rw [wipe_len]; omega)]
  · rw [wipe_get m, wipe_get m, h i m]
theorem wipe_wipe {vs : List Nat} {σ : L2.St} : L2.wipe (L2.wipe σ vs) vs = L2.wipe σ vs := wipe_ext wipe_len fun i m => wipe_get m
theorem wipeE_get : ∀ {vs : List Nat} {σ : Sl} {i : Nat}, i ∉ vs → (wipeE σ vs)[i]? = σ[i]?
  | [], _, _, _ => rfl
  | v :: vs, σ, i, h => by
    simp only [List.mem_cons, not_or] at h
    unfold wipeE
    rw [List.getElem?_set_ne (Ne.symm h.1), wipeE_get h.2]
theorem wipeE_len : ∀ {vs : List Nat} {σ : Sl}, (wipeE σ vs).length = σ.length
  | [], _ => rfl
  | v :: vs, σ => by unfold wipeE; rw [List.length_set, wipeE_len]
theorem restE_len : ∀ {vs : List Nat} {e0 σ : Sl}, (restE e0 σ vs).length = σ.length
  | [], _, _ => rfl
  | v :: vs, e0, σ => by unfold restE; rw [List.length_set, restE_len]
theorem restE_get : ∀ {vs : List Nat} {e0 σ : Sl} {i : Nat}, i ∉ vs → (restE e0 σ vs)[i]? = σ[i]?
  | [], _, _, _, _ => rfl
  | v :: vs, e0, σ, i, h => by
    simp only [List.mem_cons, not_or] at h
    unfold restE
    rw [List.getElem?_set_ne (Ne.symm h.1), restE_get h.2]
theorem restE_in : ∀ {vs : List Nat} {e0 σ : Sl} {i : Nat}, i ∈ vs → i < σ.length → (restE e0 σ vs)[i]? = some (e0[i]?.getD none)
  | v :: vs, e0, σ, i, h, hi => by
    unfold restE
    by_cases e : v = i
    · subst e
      exact List.getElem?_set_self (by rw [restE_len]; exact hi)
    · rw [List.getElem?_set_ne e]
      simp only [List.mem_cons] at h
      exact restE_in (h.resolve_left (Ne.symm e)) hi
/-- behind the block: its own slots as they were, the others as they are -/
theorem RepE.rest {H' : Hp} {F' : Fp} {P' : Addr → Prop} {e0 e : Sl} {vs : List Nat} (R0 : RepE K G H σ e0 F P) (R : RepE K G H' (L2.wipe σ vs) (wipeE e vs) F' P') (y : Fr F H F' H') (hG : ∀ v ∈ vs, G v = .dat)
    (hP : ∀ a, P' a → P a ∨ H a = none) : RepE K G H' σ (restE e0 e vs) F' P' := by
  have hl : e.length = σ.length := by
    have := R.len
    rwa [wipe_len, wipeE_len] at this
  have g : Grows (Own F P) (Own F' P') H := fun a z => by
    rcases z with z | ⟨i, z⟩
    · exact (hP a z).elim (fun z => .inl (.inl z)) .inr
    · exact (y.grow i a z).elim (fun z => .inl (.inr z)) .inr
  refine ⟨by rw [restE_len, hl], fun i d q => ?_, fun i no => ?_, R.sep, R.out, R.dom⟩
  · by_cases m : i ∈ vs
    · have hi : i < e.length := by
        apply Classical.byContradiction
        intro n
        rw [List.getElem?_eq_none (by rw [restE_len]; omega)] at q
        cases q
      rw [restE_in m hi] at q
      have q' : e0[i]? = some (some d) := by
        cases z : e0[i]? with
        | none => rw [z] at q; cases q
        | some w => rw [z] at q; simp at q; rw [q]
      obtain ⟨v, hv, r⟩ := R0.val i d q'
      rw [hG i m] at r
      refine ⟨v, hv, ?_⟩
      rw [hG i m]
      have fe : F' i = [] := by
        refine R.non i fun d' z => ?_
        have : (wipeE e vs)[i]? = some none := by
          have hm : ∀ (vs : List Nat) (i : Nat), i ∈ vs → i < e.length → (wipeE e vs)[i]? = some none := by
            intro vs
            induction vs with
            | nil => intro i h _; cases h
            | cons v vs ih =>
              intro i h hi
              unfold wipeE
              by_cases ev : v = i
              · subst ev
                exact List.getElem?_set_self (by rw [wipeE_len]; exact hi)
              · rw [List.getElem?_set_ne ev]
                simp only [List.mem_cons] at h
                exact ih i (h.resolve_left (Ne.symm ev)) hi
          exact hm vs i m hi
        rw [this] at z
        cases z
      exact ⟨fe, Rep.move (fun a o h n => y.keep a o h fun i hi => n (.inr ⟨i, hi⟩)) g _ _ r.2⟩
    · rw [restE_get m] at q
      obtain ⟨v, hv, r⟩ := R.val i d (by rw [wipeE_get m]; exact q)
      rw [wipe_get m] at hv
      exact ⟨v, hv, r⟩
  · by_cases m : i ∈ vs
    · by_cases z : ∃ d, (wipeE e vs)[i]? = some (some d)
      · obtain ⟨d, hd⟩ := z
        obtain ⟨v, hv, r⟩ := R.val i d hd
        rw [hG i m] at r
        exact r.1
      · exact R.non i fun d hd => z ⟨d, hd⟩
    · refine R.non i fun d => ?_
      have := no d
      rwa [restE_get m, ← wipeE_get (vs := vs) m] at this
end
end Lk

end
section
set_option maxRecDepth 100000
set_option maxHeartbeats 4000000
/-! Lk8: list comprehensions; a def by its body. -/
namespace Lk
open PySem PySem.Spec PyProof.Rows L2 Cr
section
variable {K : PySem.W.Frag} {G : Nat → Md} {H : Hp} {σ : L2.St} {ε : Sl} {F : Fp} {P : Addr → Prop}
/-- what is kept apart may change -/
theorem keeps_upd {O : Addr → Prop} {p : Addr} {o : HO} (h : O p) : Keeps O H (upd H p o) := fun a u e n => by
  rw [upd_ne fun z => n (by rw [z]; exact h)]
  exact e
theorem RepE.mutP (R : RepE K G H σ ε F P) {p : Addr} {o : HO} (hp : P p) : RepE K G (upd H p o) σ ε F P := by
  refine ⟨R.len, fun i d e => ?_, R.non, R.sep, R.out, fun a z => ?_⟩
  · obtain ⟨v, hv, r⟩ := R.val i d e
    exact ⟨v, hv, r.move (keeps_upd (.inl hp)) (fun a z => .inl z) fun a ha u hu => by
      rw [upd_ne fun z => R.out i a ha (by rw [z]; exact hp)]
      exact hu⟩
  · by_cases e : a = p
    · rw [e, upd_same]; intro z; cases z
    · rw [upd_ne e]; exact R.dom a z
theorem Fr.mut {F' : Fp} {H' : Hp} {p : Addr} {o : HO} (y : Fr F H F' H') (hp : H p = none) : Fr F H F' (upd H' p o) :=
  ⟨fun a u e n => by rw [upd_ne (ne_of_none e hp)]; exact y.keep a u e n, y.grow, fun a n => by
    by_cases e : a = p
    · rw [e, upd_same]; intro z; cases z
    · rw [upd_ne e]; exact y.live a n⟩
end
theorem wipeE_wipeE : ∀ {vs : List Nat} {e : Sl}, wipeE (wipeE e vs) vs = wipeE e vs := by
  intro vs e
  apply List.ext_getElem?
  intro i
  have hm : ∀ (vs : List Nat) (e : Sl) (i : Nat), i ∈ vs → (wipeE e vs)[i]? = if i < e.length then some none else none := by
    intro vs
    induction vs with
    | nil => intro e i h; cases h
    | cons v vs ih =>
      intro e i h
      unfold wipeE
      by_cases ev : v = i
      · subst ev
        by_cases hi : v < e.length
        · rw [if_pos hi, List.getElem?_set_self (by rw [wipeE_len]; exact hi)]
        · rw [if_neg hi, List.getElem?_eq_none (by rw [List.length_set, wipeE_len]; omega)]
      · rw [List.getElem?_set_ne ev]
        simp only [List.mem_cons] at h
        exact ih e i (h.resolve_left (Ne.symm ev))
  by_cases m : i ∈ vs
  · rw [hm vs _ i m, hm vs _ i m, wipeE_len]
  · rw [wipeE_get m]
section
variable {X : Cx} {C : Cc} {elt tg iter : Expr} {ifs : List Expr} {scope : Scope} {own : List (Str × Nat)} {pos : Pos} {it : M (List D)} {t : Tg} {c : M Bool} {x : M D} {vs : List Nat}
theorem rts_nil {X : Cx} {C : Cc} : PTs X [] (tT C (pu true)) := ⟨fun pins s σ H Q I ⟨ε, F, P, R, h⟩ => pts_nil.run pins s σ H Q I (h H F R Fr.refl)⟩
theorem rts_one {X : Cx} {C : Cc} {e : Expr} (h : PT X e (tT C c)) : PTs X [e] (tT C c) := pts_one h
theorem compL_cons {d : D} {ds acc : List D} {e : Sl} {ys : List D} {e2 : Sl} (h : compL vs t c x (d :: ds) acc e = .ok ys e2) :
    ∃ e3 b e4, t d (wipeE e vs) = some e3 ∧ c e3 = .ok b e4 ∧ ((b = false ∧ compL vs t c x ds acc e4 = .ok ys e2) ∨ ∃ y e5, b = true ∧ x e4 = .ok y e5 ∧ compL vs t c x ds (acc ++ [y]) e5 = .ok ys e2) := by
  unfold compL at h
  simp only [bd, stT] at h
  cases e1 : t d (wipeE e vs) with
  | none => rw [e1] at h; cases h
  | some e3 =>
    rw [e1] at h
    simp only at h
    cases e6 : c e3 with
    | exn c' e' => rw [e6] at h; cases h
    | bad => rw [e6] at h; cases h
    | ok b e4 =>
      rw [e6] at h
      simp only at h
      refine ⟨e3, b, e4, rfl, e6, ?_⟩
      cases b with
      | false => exact .inl ⟨rfl, by simpa using h⟩
      | true =>
        simp only [if_true, bd] at h
        cases e7 : x e4 with
        | exn c' e' => rw [e7] at h; cases h
        | bad => rw [e7] at h; cases h
        | ok y e5 => rw [e7] at h; exact .inr ⟨y, e5, rfl, rfl, h⟩
theorem lc_run (hG : ∀ v ∈ vs, C.G v = .dat) {σ : L2.St} {H : Hp} {Q : VK} (h : tF C .ol (lcE vs it t c x) σ H Q) : tLc (tI C it) (tG (C.blk vs) t) (tT (C.blk vs) c) (tE (C.blk vs) x) vs σ H Q := by
  obtain ⟨ε, F, P, R, h⟩ := h
  refine ⟨ε, F, P, R, ?_⟩
  unfold lcE bd at h
  cases e : it ε with
  | exn k e1 => rw [e] at h; exact h
  | bad => rw [e] at h; exact h
  | ok ds e1 =>
    rw [e] at h
    intro J H1 F1 R1 y1 w D hD
    have h1 := OkF.stp.step _ _ _ _ _ h y1
    clear h
    cases ec : compL vs t c x ds [] e1 with
    | exn k e2 => simp only [ec] at h1; exact h1.elim
    | bad => simp only [ec] at h1; exact h1.elim
    | ok ys e2 =>
    simp only [ec] at h1
    by_cases hz : ds.length ≤ 1000000
    case neg => rw [if_neg hz] at h1; exact h1.elim
    rw [if_pos hz] at h1
    let P' : Addr → Prop := fun a => P a ∨ a ∈ [D]
    have hP' : P' D := .inr (List.mem_singleton.mpr rfl)
    have gP : ∀ a, P' a → P a ∨ H1 a = none := fun a z => z.elim .inl fun z => .inr (by rw [List.mem_singleton.mp z]; exact hD)
    have R2 : RepE C.K C.G (upd H1 D (.lst [])) σ e1 F1 P' := R1.ext (same_upd hD) fun a z => z.elim .inl fun z => .inr (by
      rw [List.mem_singleton.mp z]
      exact ⟨hD, by rw [upd_same]; intro z; cases z⟩)
    refine ⟨fun i m H' => m = ds.length - i ∧ i ≤ ds.length ∧ ∃ e F' acc us, RepE C.K C.G H' (L2.wipe σ vs) (wipeE e vs) F' P' ∧ Fr F1 H1 F' H' ∧ H' D = some (.lst us) ∧ RepL C.K (Own F' P') H' acc us ∧ us.length ≤ i ∧ compL vs t c x (ds.drop i) acc e = .ok ys e2,
      ⟨ds.length, by simp, Nat.zero_le _, e1, F1, [], [], R2.wipe hG, Fr.ext (same_upd hD), upd_same, rfl, Nat.le_refl _, by simpa using ec⟩, ?_⟩
    rintro i m H2 ⟨rfl, hi, e3, F2, acc, us, R3, y2, hU, hL, hu, hcp⟩
    have g2 : Grows (Own F1 P) (Own F2 P') H1 := fun a z => by
      rcases z with z | ⟨i, z⟩
      · exact (gP a z).elim (fun z => .inl (.inl z)) .inr
      · exact (y2.grow i a z).elim (fun z => .inl (.inr z)) .inr
    have ww := w H2 (Own F2 P') y2.keeps g2 R3.dom i
    by_cases hlt : i < ds.length
    · have hd : ds[i]? = some ds[i] := List.getElem?_eq_getElem hlt
      obtain ⟨go, yl⟩ := ww.1 _ hd
      refine .inr ⟨go, fun H' => ds.length - (i + 1) < ds.length - i ∧ i + 1 ≤ ds.length ∧ ∃ e F' acc us, RepE C.K C.G H' (L2.wipe σ vs) (wipeE e vs) F' P' ∧ Fr F1 H1 F' H' ∧ H' D = some (.lst us) ∧ RepL C.K (Own F' P') H' acc us ∧ us.length ≤ i + 1 ∧ compL vs t c x (ds.drop (i + 1)) acc e = .ok ys e2,
        fun H' n => ⟨ds.length - (i + 1), n.1, rfl, n.2⟩, fun v H3 hy => ?_⟩
      obtain ⟨ext, r⟩ := yl v H3 hy
      rw [List.drop_eq_getElem_cons hlt] at hcp
      obtain ⟨e4, b, e5, q1, q2, q3⟩ := compL_cons hcp
      refine ⟨ds[i], wipeE e3 vs, F2, P', R3.grow ext, r, e4, q1, fun σ4 H4 F4 R4 y4 p4 => ?_⟩
      have nD : ∀ i, D ∉ F2 i := fun i z => R3.out i D z hP'
      have nD4 : ∀ i, D ∉ F4 i := fun i z => R4.out i D z hP'
      have hU3 : H3 D = some (.lst us) := ext D _ hU
      have hU4 : H4 D = some (.lst us) := y4.keep D _ hU3 nD
      have y04 : Fr F1 H1 F4 H4 := (y2.trans (Fr.ext ext)).trans y4
      have y24 : Fr F2 H2 F4 H4 := (Fr.ext ext).trans y4
      have wq : L2.wipe σ4 vs = L2.wipe σ vs := by
        rw [wipe_ext (σ := L2.wipe σ vs) p4.1 fun i m => p4.2 i (by simp [Cc.blk, m]), wipe_wipe]
      refine ⟨wq, e4, F4, P', R4, ?_⟩
      rw [q2]
      intro H5 F5 R5 y5
      have y05 := y04.trans y5
      have y25 := y24.trans y5
      have hU5 : H5 D = some (.lst us) := y5.keep D _ hU4 nD4
      have nD5 : ∀ i, D ∉ F5 i := fun i z => R5.out i D z hP'
      rcases q3 with ⟨rfl, q3⟩ | ⟨y, e6, rfl, q4, q3⟩
      · refine iteF ⟨by omega, hlt, e5, F5, acc, us, ?_, y05, hU5, y25.repL hL, by omega, q3⟩
        have := RepE.wipe (vs := vs) R5 hG
        rwa [wq] at this
      · refine iteT ⟨e5, F5, P', R5, ?_⟩
        rw [q4]
        intro H6 F6 R6 y6 u ru
        have hU6 : H6 D = some (.lst us) := y6.keep D _ hU5 nD5
        refine ⟨us, hU6, Nat.lt_of_le_of_lt (show us.length ≤ 1000000 by omega) (by decide), by omega, hlt, e6, F6, acc ++ [y], us ++ [u], ?_, (y05.trans y6).mut hD, upd_same, ?_, by simp; omega, q3⟩
        · have := RepE.wipe (vs := vs) (RepE.mutP (o := .lst (us ++ [u])) R6 hP') hG
          rwa [wq] at this
        · exact RepL.append (RepL.move (keeps_upd (.inl hP')) (fun a z => .inl z) _ _ ((y25.trans y6).repL hL)) (RepL.one (Rep.move (keeps_upd (.inl hP')) (fun a z => .inl z) _ _ ru))
    · refine .inl ⟨ww.2 (by omega), ?_⟩
      rw [List.drop_of_length_le (by omega)] at hcp
      cases hcp
      exact h1 (.ref D) H2 F2 [D] (RepE.rest R1 R3 y2 hG gP) y2 (fun a ha => by rw [List.mem_singleton.mp ha]; exact hD) ⟨D, us, _, rfl, rfl, rfl, hU, hL⟩
theorem rf_lc (hc : X.calm = true) (hN : X.N.Nodup) (hi : PI X tg iter (tI C it)) (ok : BlkOk X.N X.env.scope scope own) (hv : own.map (·.2) = vs) (hG : ∀ v ∈ vs, C.G v = .dat)
    (hg : ∀ (s : Shared) (H : Hp) (L : Addr) (cl : List (Str × Addr)) (fp : List Addr), PG (X.blk s H scope (compEnvC scope cl L X.env) fp) tg (tG (C.blk vs) t))
    (ht : ∀ (s : Shared) (H : Hp) (L : Addr) (cl : List (Str × Addr)) (fp : List Addr), PTs (X.blk s H scope (compEnvC scope cl L X.env) fp) ifs (tT (C.blk vs) c))
    (he : ∀ (s : Shared) (H : Hp) (L : Addr) (cl : List (Str × Addr)) (fp : List Addr), PE (X.blk s H scope (compEnvC scope cl L X.env) fp) elt (tE (C.blk vs) x))
    (hs : ∀ x, foldedSetIterable iter X.env x = pure x := by intro _; rfl) : PE X (.ListComp elt [⟨tg, iter, ifs, 0⟩] scope pos) (tF C .ol (lcE vs it t c x)) :=
  PE.mono (pe_lc hc hN hi ok hg ht he hs) fun σ H Q h => by rw [hv]; exact lc_run hG h
/-- y = [..] on one line -/
theorem rs_setLc {i : Nat} {y : Str} {py spos : Pos} (hc : X.calm = true) (hN : X.N.Nodup) (hy : X.N[i]? = some y) (hyl : X.env.scope.names.lookup y = some .local) (hsw : swapsWith (.ListComp elt [⟨tg, iter, ifs, 0⟩] scope pos) (some (.Name y py)) spos.line X.env = pure true)
    (hi : PI X tg iter (tI C it)) (ok : BlkOk X.N X.env.scope scope own) (hv : own.map (·.2) = vs) (hG : ∀ v ∈ vs, C.G v = .dat)
    (hg : ∀ (s : Shared) (H : Hp) (L : Addr) (cl : List (Str × Addr)) (fp : List Addr), PG (X.blk s H scope (compEnvC scope cl L X.env) fp) tg (tG (C.blk vs) t))
    (ht : ∀ (s : Shared) (H : Hp) (L : Addr) (cl : List (Str × Addr)) (fp : List Addr), PTs (X.blk s H scope (compEnvC scope cl L X.env) fp) ifs (tT (C.blk vs) c))
    (he : ∀ (s : Shared) (H : Hp) (L : Addr) (cl : List (Str × Addr)) (fp : List Addr), PE (X.blk s H scope (compEnvC scope cl L X.env) fp) elt (tE (C.blk vs) x))
    (hs : ∀ x, foldedSetIterable iter X.env x = pure x := by intro _; rfl) : PS X (.Assign [.Name y py] (.ListComp elt [⟨tg, iter, ifs, 0⟩] scope pos) spos) (tAsg (tF C .ol (lcE vs it t c x)) (gName i)) :=
  PS.mono (ps_setLc hc hN hy hyl hsw hi ok hg ht he hs) fun D σ H h => by rw [hv]; exact lc_run hG h
theorem asg_fe {st : Stmt} {md : Md} {m : M D} {g : TG} (h : PS X st (tAsg (tF C md m) g)) (hmd : md ≠ .oll := by decide) : PS X st (tAsg (tE C m) g) := PS.mono h fun D σ H h => fe_run hmd h
theorem all_dat {G : Nat → Md} {vs : List Nat} (h : vs.all (fun v => decide (G v = .dat)) = true) : ∀ v ∈ vs, G v = .dat := fun v hv => of_decide_eq_true (List.all_eq_true.mp h v hv)
end

/-! ### a def -/
theorem finM_ok : ∀ {own : List Bool} {ds : List D} {e : Sl} {r : List D}, finM own ds e = some r → own.length = ds.length ∧ r.length = ds.length ∧ ∀ (i : Nat), (own[i]? = some true → ∃ x, r[i]? = some x ∧ e[i]? = some (some x)) ∧ (own[i]? = some false → r[i]? = ds[i]?)
  | [], [], e, r, h => by
    simp only [finM] at h
    cases h
    exact ⟨rfl, rfl, fun i => ⟨fun z => by simp at z, fun z => by simp at z⟩⟩
  | [], _ :: _, _, _, h => by simp [finM] at h
  | _ :: _, [], _, _, h => by simp [finM] at h
  | _ :: _, _ :: _, [], _, h => by simp [finM] at h
  | o :: os, d :: ds, s :: e, r, h => by
    simp only [finM] at h
    cases o with
    | true =>
      simp only [if_true] at h
      cases s with
      | none => cases h
      | some x =>
        simp only [Option.map_eq_some_iff] at h
        obtain ⟨r', h1, rfl⟩ := h
        obtain ⟨a, b, c⟩ := finM_ok h1
        refine ⟨by simp [a], by simp [b], fun i => ?_⟩
        cases i with
        | zero => exact ⟨fun _ => ⟨x, rfl, rfl⟩, fun z => by simp at z⟩
        | succ i => simpa using c i
    | false =>
      simp only [Bool.false_eq_true, if_false, Option.map_eq_some_iff] at h
      obtain ⟨r', h1, rfl⟩ := h
      obtain ⟨a, b, c⟩ := finM_ok h1
      refine ⟨by simp [a], by simp [b], fun i => ?_⟩
      cases i with
      | zero => exact ⟨fun z => by simp at z, fun _ => rfl⟩
      | succ i => simpa using c i
def ownB (pm : List Md) : List Bool := pm.map fun m => decide (m ≠ .dat)
/-- the context of a def's body: E the wish about what is raised -/
def cc (K : PySem.W.Frag) (cl : Nat → Addr) (pm gs : List Md) (rm : Md) (E : XK) : Cc :=
  { K := K, G := gm gs, W := fun c _ H => E (.ref (cl c)) none H, pin := fun i => (ownB pm)[i]?.getD false, rm := rm }
section
variable {K : PySem.W.Frag} {cl : Nat → Addr} {pm gs : List Md} {rm : Md} {E : XK} {H : Hp} {vs : List V} {ds : List D} {F : Fp} {P : Addr → Prop} {n : Nat}
theorem gm_pre (hg : gs.take pm.length = pm) {i : Nat} (hi : i < pm.length) : gm gs i = gm pm i := by
  unfold gm
  rw [← hg, List.getElem?_take_of_lt hi]
/-- the start -/
theorem start_ok (R : RepE K (gm pm) H (vs.map some) (ds.map some) F P) (hl : vs.length = pm.length) (hg : gs.take pm.length = pm) {N : List Str} (hN : pm.length ≤ N.length) :
    RepE K (gm gs) H (L2.start N vs) (ds.map some ++ List.replicate (N.length - ds.length) none) F P := by
  have hd : ds.length = vs.length := by have := R.len; simpa using this
  unfold L2.start
  refine ⟨by simp [hd], fun i d e => ?_, fun i no => ?_, R.sep, R.out, R.dom⟩
  · by_cases hi : i < ds.length
    · rw [List.getElem?_append_left (by simpa using hi)] at e
      obtain ⟨v, hv, r⟩ := R.val i d e
      refine ⟨v, ?_, ?_⟩
      · rw [List.getElem?_append_left (by rw [List.length_map]; omega)]
        exact hv
      · rw [gm_pre hg (by omega)]
        exact r
    · rw [List.getElem?_append_right (by simpa using hi), List.getElem?_replicate] at e
      split at e <;> cases e
  · by_cases hi : i < ds.length
    · refine R.non i fun d z => ?_
      have := no d
      rw [List.getElem?_append_left (by simpa using hi)] at this
      exact this z
    · exact R.non i fun d z => by
        rw [List.getElem?_eq_none (by simpa using hi)] at z
        cases z
/-- what the parameters own at the end -/
def Fe (pm : List Md) (F' : Fp) : Fp := fun i => if (ownB pm)[i]?.getD false = true then F' i else []
theorem own_gm {i : Nat} (h : (ownB pm)[i]?.getD false = false) : gm pm i = .dat := by
  unfold ownB at h
  unfold gm
  rw [List.getElem?_map] at h
  cases e : pm[i]? with
  | none => rfl
  | some m =>
    rw [e] at h
    simp at h
    simpa using h
theorem own_gm' {i : Nat} (h : (ownB pm)[i]?.getD false = true) : gm pm i ≠ .dat ∧ i < pm.length ∧ (ownB pm)[i]? = some true := by
  have hi : i < pm.length := by
    apply Classical.byContradiction
    intro z
    unfold ownB at h
    rw [List.getElem?_map, List.getElem?_eq_none (by omega)] at h
    cases h
  unfold ownB at h ⊢
  unfold gm
  rw [List.getElem?_map] at h ⊢
  rw [List.getElem?_eq_getElem hi] at h ⊢
  simp at h
  simp [h, hi]
/-- the end: what the parameters hold -/
theorem end_ok {σ' : L2.St} {e : Sl} {H' : Hp} {F' : Fp} {P' : Addr → Prop} {r : List D} {N : List Str} (R : RepE K (gm pm) H (vs.map some) (ds.map some) F P) (hl : vs.length = pm.length) (hg : gs.take pm.length = pm)
    (R' : RepE K (gm gs) H' σ' e F' P') (y : Fr F H F' H') (hp : ∀ (i : Nat), (ownB pm)[i]?.getD false = true → σ'[i]? = (L2.start N vs)[i]?) (hr : finM (ownB pm) ds e = some r) (hP : ∀ a, P' a → P a ∨ (∃ j, a ∈ F j) ∨ H a = none) :
    RepE K (gm pm) H' (vs.map some) (r.map some) (Fe pm F') P' ∧ Fr F H (Fe pm F') H' ∧ ∀ a, Own (Fe pm F') P' a → Own F' P' a := by
  obtain ⟨l1, l2, l3⟩ := finM_ok hr
  have hd : ds.length = vs.length := by have := R.len; simpa using this
  have down : ∀ a, Own (Fe pm F') P' a → Own F' P' a := by
    rintro a (z | ⟨i, z⟩)
    · exact .inl z
    · unfold Fe at z
      split at z
      · exact .inr ⟨i, z⟩
      · cases z
  have fr : Fr F H (Fe pm F') H' := ⟨y.keep, fun i a z => by
    unfold Fe at z
    by_cases q : (ownB pm)[i]?.getD false = true
    · rw [if_pos q] at z
      exact y.grow i a z
    · rw [if_neg q] at z
      exact (List.not_mem_nil z).elim, y.live⟩
  have inF : ∀ {i : Nat} {a : Addr}, a ∈ Fe pm F' i → (ownB pm)[i]?.getD false = true ∧ a ∈ F' i := fun {i a} z => by
    unfold Fe at z
    split at z
    · rename_i h; exact ⟨h, z⟩
    · cases z
  refine ⟨⟨by simp [l2, hd], fun i d q => ?_, fun i no => ?_, fun i j a h h' => R'.sep i j a (inF h).2 (inF h').2, fun i a h => R'.out i a (inF h).2, fun a z => R'.dom a (down a z)⟩, fr, down⟩
  · have q' : r[i]? = some d := by
      rw [List.getElem?_map] at q
      cases z : r[i]? with
      | none => rw [z] at q; cases q
      | some w => rw [z] at q; simp at q; rw [q]
    have hi : i < vs.length := by
      have := (List.getElem?_eq_some_iff.mp q').1
      omega
    cases ho : (ownB pm)[i]?.getD false with
    | true =>
      obtain ⟨g1, g2, g3⟩ := own_gm' ho
      obtain ⟨x, hx, ex⟩ := (l3 i).1 g3
      rw [q'] at hx
      cases hx
      obtain ⟨v, hv, rr⟩ := R'.val i d ex
      rw [hp i ho] at hv
      unfold L2.start at hv
      rw [List.getElem?_append_left (by simpa using hi)] at hv
      refine ⟨v, hv, ?_⟩
      have : Fe pm F' i = F' i := by unfold Fe; rw [if_pos ho]
      rw [this, ← gm_pre hg g2]
      exact rr.move Keeps.rfl' (fun a z => .inl (down a z)) fun _ _ _ h => h
    | false =>
      have gd := own_gm ho
      have ho' : (ownB pm)[i]? = some false := by
        have hi' : i < (ownB pm).length := by unfold ownB; simp; omega
        rw [List.getElem?_eq_getElem hi'] at ho ⊢
        simpa using ho
      rw [(l3 i).2 ho'] at q'
      obtain ⟨v, hv, rr⟩ := R.val i d (by rw [List.getElem?_map, q']; rfl)
      refine ⟨v, hv, ?_⟩
      rw [gd] at rr ⊢
      have : Fe pm F' i = [] := by unfold Fe; rw [if_neg (by rw [ho]; decide)]
      rw [this]
      refine ⟨rfl, Rep.move (fun a o h n => y.keep a o h fun i hi => n (.inr ⟨i, hi⟩)) (fun a z => ?_) _ _ rr.2⟩
      rcases z with z | ⟨j, z⟩
      · rcases hP a z with z | z | z
        · exact .inl (.inl z)
        · exact .inl (.inr z)
        · exact .inr z
      · rcases fr.grow j a z with z | z
        · exact .inl (.inr z)
        · exact .inr z
  · unfold Fe
    split
    · rename_i ho
      obtain ⟨g1, g2, g3⟩ := own_gm' ho
      obtain ⟨x, hx, ex⟩ := (l3 i).1 g3
      exact absurd (by rw [List.getElem?_map, hx]; rfl) (no x)
    · rfl
/-- one place -/
def lone : Md → Bool
  | .ox | .oll => false
  | _ => true
/-- a slot's own list is at one place -/
theorem ol_one {O : Addr → Prop} {md : Md} {d : D} {v : V} {fp : List Addr} (r : RepM K O H md d v fp) (h : md ≠ .dat) (ho : lone md = true) : ∃ a, v = .ref a ∧ a ∈ fp := by
  cases md with
  | dat => exact absurd rfl h
  | ol =>
    obtain ⟨a, _, _, _, rfl, rfl, _, _⟩ := r
    exact ⟨a, rfl, List.mem_singleton.mpr rfl⟩
  | ox => cases ho
  | od =>
    obtain ⟨a, _, _, _, rfl, rfl, _, _⟩ := r
    exact ⟨a, rfl, List.mem_singleton.mpr rfl⟩
  | oh =>
    obtain ⟨a, _, _, _, rfl, rfl, _, _⟩ := r
    exact ⟨a, rfl, List.mem_singleton.mpr rfl⟩
  | oll => cases ho
theorem ol_all {O : Addr → Prop} {md : Md} {d : D} {v : V} {fp : List Addr} (r : RepM K O H md d v fp) (ho : lone md = true) : ∀ a ∈ fp, v = .ref a := by
  cases md with
  | dat => rw [r.1]; intro a h; cases h
  | ol =>
    obtain ⟨a, _, _, _, rfl, rfl, _, _⟩ := r
    intro b hb
    rw [List.mem_singleton.mp hb]
  | ox =>
    rcases r with ⟨a, _, _, _, rfl, rfl, _, _⟩ | ⟨h1, h2, h3⟩
    · intro b hb
      rw [List.mem_singleton.mp hb]
    · rw [h2]; intro a h; cases h
  | od =>
    obtain ⟨a, _, _, _, rfl, rfl, _, _⟩ := r
    intro b hb
    rw [List.mem_singleton.mp hb]
  | oh =>
    obtain ⟨a, _, _, _, rfl, rfl, _, _⟩ := r
    intro b hb
    rw [List.mem_singleton.mp hb]
  | oll => cases ho
end
section
variable {K : PySem.W.Frag} {P : Program} {w : World} {mg : Str → Option Value} {base : Heap} {cl : Nat → Addr}
/-- a def by its body -/
theorem ok_def {x qual : Str} {st : Stmt} {f : Addr} {fd : FuncData} {N ps : List Str} {k : Nat} {pm gs : List Md} {rm : Md} {body : S} {fall : Bool} (Fd : FunD K x qual (defArgs st) (defBody st) (defScope st) [] [] f fd) (Sc : FnScope N ps (defScope st)) (hl : pm.length = ps.length) (hN : pm.length ≤ N.length) (hg : gs.take pm.length = pm)
    (hf : fall = true → rm = .dat)
    (hbody : ∀ (cdv : Value) (A : Around) (outer : List PySem.Env) (s : Shared) (H : Hp) (E : XK), RoomG k (A.deeper (envOfC qual (defScope st) s.heap.objs.size f cdv)) →
      PSs (cxOf (CXA P w) P w K mg base N qual (defScope st) f cdv A outer s H E) (defBody st) (tS (cc K cl pm gs rm E) body)) (hpm : pm.all lone = true := by decide) : FnG P w K mg base (CXA P w) (k + 1) f fd ps (spF K pm rm cl (fnOf (ownB pm) fall N.length body)) := by
  refine FunD.okG Fd Sc (fun vs H Q E h => (spF_len h).trans hl) fun cdv A outer s H vs Q E hr h => ⟨_, hbody cdv A outer s H E hr, ?_⟩
  obtain ⟨ds, F, Pp, R, hv, h⟩ := h
  have R0 := start_ok (gs := gs) R hv hg hN
  refine ⟨_, F, Pp, R0, ?_⟩
  unfold fnOf at h
  cases eb : body (ds.map some ++ List.replicate (N.length - ds.length) none) with
  | bad => simp only [eb] at h
  | exn c e =>
    simp only [eb] at h
    exact fun σ' H' F' R' y => h.2 H' fun a o q => y.keep a o q fun i z => by rw [h.1 i] at z; cases z
  | ok fl e =>
    cases fl with
    | bk => simp only [eb] at h
    | ct => simp only [eb] at h
    | nx =>
      simp only [eb] at h
      intro σ' H' F' R' y p
      cases er : finM (ownB pm) ds e with
      | none => simp only [er] at h
      | some r =>
        simp only [er] at h
        cases fall with
        | false => simp at h
        | true =>
          simp only [if_true] at h
          obtain ⟨a1, a2, a3⟩ := end_ok (N := N) R hv hg R' y p.2 er fun a z => .inl z
          exact h .non H' (Fe pm F') [] a1.nilP a2 (fun a z => by cases z) (by rw [hf rfl]; exact ⟨rfl, rfl⟩)
    | rt d =>
      simp only [eb] at h
      intro v σ' H' F' fp R' y p n rr
      cases er : finM (ownB pm) ds e with
      | none => simp only [er] at h
      | some r =>
        simp only [er] at h
        have nF : ∀ a ∈ fp, ¬ ∃ j, a ∈ F j := fun a ha ⟨j, hj⟩ => by
          have hjd : ∃ d0, (ds.map some)[j]? = some (some d0) := Classical.byContradiction fun z => by
            rw [R.non j fun d q => z ⟨d, q⟩] at hj
            cases hj
          obtain ⟨d0, hd0⟩ := hjd
          obtain ⟨v0, hv0, r0⟩ := R.val j d0 hd0
          have ho : (ownB pm)[j]?.getD false = true := by
            cases q : (ownB pm)[j]?.getD false with
            | true => rfl
            | false =>
              rw [own_gm q] at r0
              rw [r0.1] at hj
              cases hj
          obtain ⟨g1, g2, g3⟩ := own_gm' ho
          have lj : lone (gm pm j) = true := by
            unfold gm
            rw [List.getElem?_eq_getElem g2]
            exact List.all_eq_true.mp hpm _ (List.getElem_mem g2)
          obtain ⟨x, hx, ex⟩ := ((finM_ok er).2.2 j).1 g3
          obtain ⟨v1, hv1, r1⟩ := R'.val j x ex
          have ev : v1 = v0 := by
            rw [p.2 j ho] at hv1
            unfold L2.start at hv1
            rw [List.getElem?_append_left (by rw [List.length_map, hv]; exact g2)] at hv1
            rw [hv0] at hv1
            exact (Option.some.inj (Option.some.inj hv1)).symm
          obtain ⟨b, eb1, hb⟩ := ol_one r1 (by
            show gm gs j ≠ .dat
            rw [gm_pre hg g2]
            exact g1) (by show lone (gm gs j) = true; rw [gm_pre hg g2]; exact lj)
          have ea : v0 = .ref a := ol_all r0 lj a hj
          rw [ev, ea] at eb1
          cases eb1
          exact R'.out j a hb (.inr ha)
        have hP : ∀ a, (Pp a ∨ a ∈ fp) → Pp a ∨ (∃ j, a ∈ F j) ∨ H a = none := fun a z => z.elim .inl fun z => .inr (n a z)
        obtain ⟨a1, a2, a3⟩ := end_ok (N := N) R hv hg R' y p.2 er hP
        exact h v H' (Fe pm F') fp a1 a2 (fun a ha => (n a ha).resolve_left (nF a ha)) (rr.move Keeps.rfl' (fun a z => .inl (a3 a z)) fun _ _ _ h => h)
end
end Lk

end
section
set_option maxRecDepth 100000
set_option maxHeartbeats 4000000
/-! Lk9: what the operators and built-ins do to data. -/
namespace Lk
open PySem PySem.Spec PyProof.Rows L2 Cr
theorem OpR.or {X : Cx} {f : Value → Value → Sem Value} {r r' : R2} (h : OpR X f r) (h' : OpR X f r') : OpR X f (fun x y H Q => r x y H Q ∨ r' x y H Q) := by
  intro pins s σ H x y v u Q I rx ry q
  rcases q with q | q
  · exact h pins s σ H x y v u Q I rx ry q
  · exact h' pins s σ H x y v u Q I rx ry q
theorem CallR.or {X : Cx} {f : Value} {r r' : List V → Hp → VK → Prop} (h : CallR X f r) (h' : CallR X f r') : CallR X f (fun xs H Q => r xs H Q ∨ r' xs H Q) := by
  intro pins s σ H xs us Q I rx q
  rcases q with q | q
  · exact h pins s σ H xs us Q I rx q
  · exact h' pins s σ H xs us Q I rx q
/-! ### data of the hand layer -/
mutual
def toPy : D → PyData
  | .non => .none
  | .bl b => .bool b
  | .int i => .int i
  | .str s => .str s
  | .tup xs => .tuple (toPyL xs)
  | .lst xs => .list (toPyL xs)
  | .dct _ => .dict []
  | .dht _ => .dict []
  | .own _ => .dict []
  | .ins _ _ => .dict []
def toPyL : List D → List PyData
  | [] => []
  | x :: xs => toPy x :: toPyL xs
end
mutual
theorem eqv_py : ∀ (n m : Nat) (x y : D), sh n x = true → sh m y = true → eqv x y = PyData.eqv (toPy x) (toPy y)
  | n, m, .non, .non, _, _ | n, m, .non, .bl _, _, _ | n, m, .non, .int _, _, _ | n, m, .non, .str _, _, _ | n, m, .non, .tup _, _, _ | n, m, .non, .lst _, _, _ => by simp [eqv, toPy, PyData.eqv]
  | n, m, .bl _, .non, _, _ | n, m, .bl _, .bl _, _, _ | n, m, .bl _, .int _, _, _ | n, m, .bl _, .str _, _, _ | n, m, .bl _, .tup _, _, _ | n, m, .bl _, .lst _, _, _ => by simp [eqv, toPy, PyData.eqv]
  | n, m, .int _, .non, _, _ | n, m, .int _, .bl _, _, _ | n, m, .int _, .int _, _, _ | n, m, .int _, .str _, _, _ | n, m, .int _, .tup _, _, _ | n, m, .int _, .lst _, _, _ => by simp [eqv, toPy, PyData.eqv]
  | n, m, .str _, .non, _, _ | n, m, .str _, .bl _, _, _ | n, m, .str _, .int _, _, _ | n, m, .str _, .str _, _, _ | n, m, .str _, .tup _, _, _ | n, m, .str _, .lst _, _, _ => by simp [eqv, toPy, PyData.eqv]
  | n, m, .tup _, .non, _, _ | n, m, .tup _, .bl _, _, _ | n, m, .tup _, .int _, _, _ | n, m, .tup _, .str _, _, _ | n, m, .tup _, .lst _, _, _ => by simp [eqv, toPy, PyData.eqv]
  | n, m, .lst _, .non, _, _ | n, m, .lst _, .bl _, _, _ | n, m, .lst _, .int _, _, _ | n, m, .lst _, .str _, _, _ | n, m, .lst _, .tup _, _, _ => by simp [eqv, toPy, PyData.eqv]
  | n + 1, m + 1, .tup xs, .tup ys, h, h' => by
    simp only [eqv, toPy, PyData.eqv]
    exact eqvL_py n m xs ys (by simpa [sh] using h) (by simpa [sh] using h')
  | n + 1, m + 1, .lst xs, .lst ys, h, h' => by
    simp only [eqv, toPy, PyData.eqv]
    exact eqvL_py n m xs ys (by simpa [sh] using h) (by simpa [sh] using h')
  | 0, _, .tup _, .tup _, h, _ | 0, _, .lst _, .lst _, h, _ => by simp [sh] at h
  | _, 0, .tup _, .tup _, _, h | _, 0, .lst _, .lst _, _, h => by simp [sh] at h
  | n, _, .dct _, _, h, _ | n, _, .dht _, _, h, _ | n, _, .own _, _, h, _ | n, _, .ins _ _, _, h, _ => by cases n <;> simp [sh] at h
  | _, n, _, .dct _, _, h | _, n, _, .dht _, _, h | _, n, _, .own _, _, h | _, n, _, .ins _ _, _, h => by cases n <;> simp [sh] at h
theorem eqvL_py : ∀ (n m : Nat) (xs ys : List D), shL n xs = true → shL m ys = true → eqvL xs ys = PyData.eqvAll (toPyL xs) (toPyL ys)
  | _, _, [], [], _, _ => by simp [eqvL, toPyL, PyData.eqvAll]
  | _, _, [], _ :: _, _, _ => by simp [eqvL, toPyL, PyData.eqvAll]
  | _, _, _ :: _, [], _, _ => by simp [eqvL, toPyL, PyData.eqvAll]
  | n, m, x :: xs, y :: ys, h, h' => by
    simp only [shL, Bool.and_eq_true] at h h'
    simp only [eqvL, toPyL, PyData.eqvAll, eqv_py n m x y h.1 h'.1, eqvL_py n m xs ys h.2 h'.2]
end
mutual
theorem sh_lay : ∀ (n : Nat) (x : D), sh n x = true → PyData.canLay0 (toPy x) = true ∧ PyData.depth (toPy x) ≤ n
  | n, .non, _ | n, .bl _, _ | n, .int _, _ => by simp [toPy, PyData.canLay0, PyData.depth]
  | n, .str s, h => by
    have h' : s.cps.all (· < 0x110000) = true := by cases n <;> simpa [sh] using h
    simp only [toPy, PyData.canLay0, PyData.depth]
    exact ⟨h', Nat.zero_le _⟩
  | n + 1, .tup xs, h => by
    obtain ⟨a, b⟩ := shL_lay n xs (by simpa [sh] using h)
    simp only [toPy, PyData.canLay0, PyData.depth]
    exact ⟨a, by omega⟩
  | n + 1, .lst xs, h => by
    obtain ⟨a, b⟩ := shL_lay n xs (by simpa [sh] using h)
    simp only [toPy, PyData.canLay0, PyData.depth]
    exact ⟨a, by omega⟩
  | 0, .tup _, h | 0, .lst _, h => by simp [sh] at h
  | n, .dct _, h | n, .dht _, h | n, .own _, h | n, .ins _ _, h => by cases n <;> simp [sh] at h
theorem shL_lay : ∀ (n : Nat) (xs : List D), shL n xs = true → PyData.canLayAll0 (toPyL xs) = true ∧ PyData.depthAll (toPyL xs) ≤ n
  | n, [], _ => by simp [toPyL, PyData.canLayAll0, PyData.depthAll]
  | n, x :: xs, h => by
    simp only [shL, Bool.and_eq_true] at h
    obtain ⟨a, b⟩ := sh_lay n x h.1
    obtain ⟨c, d⟩ := shL_lay n xs h.2
    simp only [toPyL, PyData.canLayAll0, PyData.depthAll, a, c, Bool.and_self, true_and]
    omega
end
mutual
theorem dp_of {K : PySem.W.Frag} {O : Addr → Prop} {H : Hp} : ∀ (n : Nat) (x : D) (v : V), sh n x = true → Rep K O H x v → Dp K H v (toPy x)
  | n, .non, v, _, r => by rw [show v = .non from r]; exact .non
  | n, .bl b, v, _, r => by rw [show v = .bl b from r]; exact .bl b
  | n, .int i, v, _, r => by rw [show v = .int i from r]; exact .int i
  | n, .str s, v, _, r => by rw [show v = .str s from r]; exact .str s
  | n + 1, .tup xs, v, h, r => by
    obtain ⟨a, vs, rfl, t, l⟩ := r
    simp only [toPy]
    exact .tup t.sq (dpL_of n xs vs (by simpa [sh] using h) l)
  | n + 1, .lst xs, v, h, r => by
    obtain ⟨a, vs, rfl, t, l⟩ := r
    simp only [toPy]
    exact .lst t.sq (dpL_of n xs vs (by simpa [sh] using h) l)
  | 0, .tup _, _, h, _ | 0, .lst _, _, h, _ => by simp [sh] at h
  | n, .dct _, _, h, _ | n, .dht _, _, h, _ | n, .own _, _, h, _ | n, .ins _ _, _, h, _ => by cases n <;> simp [sh] at h
theorem dpL_of {K : PySem.W.Frag} {O : Addr → Prop} {H : Hp} : ∀ (n : Nat) (xs : List D) (vs : List V), shL n xs = true → RepL K O H xs vs → DpAll K H vs (toPyL xs)
  | n, [], vs, _, r => by rw [show vs = [] from r]; exact .nil
  | n, x :: xs, vs, h, r => by
    simp only [shL, Bool.and_eq_true] at h
    obtain ⟨v, us, rfl, r1, r2⟩ := r
    exact .cons (dp_of n x v h.1 r1) (dpL_of n xs us h.2 r2)
end
theorem dp_w {K : PySem.W.Frag} {O : Addr → Prop} {H : Hp} {n : Nat} {x : D} {v : V} (h : sh n x = true) (r : RepW K O H x v) : Dp K H v (toPy x) := by
  cases x with
  | lst xs =>
    obtain ⟨a, vs, rfl, t, l⟩ := r
    cases n with
    | zero => simp [sh] at h
    | succ n =>
      simp only [toPy]
      exact .lst t (dpL_of n xs vs (by simpa [sh] using h) l)
  | dct ks => cases n <;> simp [sh] at h
  | dht ks => cases n <;> simp [sh] at h
  | own ks => cases n <;> simp [sh] at h
  | ins _ ks => cases n <;> simp [sh] at h
  | _ => exact dp_of (O := O) n _ v h r
theorem shaped_of {x : D} (h : sh DEP x = true) : SeqAt.shaped (toPy x) = true := by
  obtain ⟨a, b⟩ := sh_lay _ x h
  unfold SeqAt.shaped
  rw [a, decide_eq_true (show (toPy x).depth ≤ 64 from Nat.le_trans b (by decide))] <;> rfl
section
variable {X : Cx} {K : PySem.W.Frag}
/-! ### comparisons -/
theorem os_eq : OpS K (rEqD K) gEq := fun O H x y d1 d2 d Q dm r1 r2 e q => by
  unfold gEq at e
  split at e
  · rename_i h
    cases e
    refine ⟨toPy d1, toPy d2, dp_w h.1 r1, dp_w h.2 r2, shaped_of h.1, shaped_of h.2, ?_⟩
    rw [← eqv_py _ _ _ _ h.1 h.2]
    exact q _ _ (fun _ _ h => h) rfl
  · cases e
theorem os_ne : OpS K (rNeD K) gNe := fun O H x y d1 d2 d Q dm r1 r2 e q => by
  unfold gNe at e
  split at e
  · rename_i h
    cases e
    refine ⟨toPy d1, toPy d2, dp_w h.1 r1, dp_w h.2 r2, shaped_of h.1, shaped_of h.2, ?_⟩
    rw [← eqv_py _ _ _ _ h.1 h.2]
    exact q _ _ (fun _ _ h => h) rfl
  · cases e
/-- x in c, c a list or a tuple of data -/
def rInA (K : PySem.W.Frag) (neg : Bool) : R2 := fun x y H Q => ∃ d ds, Dp K H x d ∧ (Dp K H y (.list ds) ∨ Dp K H y (.tuple ds)) ∧ PyData.canLay0 d = true ∧ PyData.canLayAll0 ds = true ∧ d.depth ≤ 60 ∧
  Q (.bl (if neg then !(ds.any fun z => PyData.eqv z d) else ds.any fun z => PyData.eqv z d)) H
theorem op_inA (hu : X.A.units + 65 < cLine) : OpR X (compareOp .In) (rInA X.K false) := by
  intro pins s σ H x y v u Q I rx ry h
  obtain ⟨d, ds, hd, he, sd, se, dd, q⟩ := h
  obtain ⟨as, r1⟩ := Dp.reads I d x v hd rx
  have hr : X.A.units + 1 + min (PyData.depthAll ds) d.depth < cLine := by
    have := Nat.min_le_right (PyData.depthAll ds) d.depth
    omega
  rcases he with he | he
  · obtain ⟨bs, r2⟩ := Dp.reads I (.list ds) y u he ry
    exact SeqAt.in_list_reads r2 r1 se sd hr ⟨.bl _, H, I, rfl, q⟩
  · obtain ⟨bs, r2⟩ := Dp.reads I (.tuple ds) y u he ry
    exact SeqAt.in_tuple_reads r2 r1 se sd hr ⟨.bl _, H, I, rfl, q⟩
theorem op_niA (hu : X.A.units + 65 < cLine) : OpR X (compareOp .NotIn) (rInA X.K true) := by
  intro pins s σ H x y v u Q I rx ry h
  obtain ⟨d, ds, hd, he, sd, se, dd, q⟩ := h
  obtain ⟨as, r1⟩ := Dp.reads I d x v hd rx
  have hr : X.A.units + 1 + min (PyData.depthAll ds) d.depth < cLine := by
    have := Nat.min_le_right (PyData.depthAll ds) d.depth
    omega
  rcases he with he | he
  · obtain ⟨bs, r2⟩ := Dp.reads I (.list ds) y u he ry
    exact SeqAt.notIn_list_reads r2 r1 se sd hr ⟨.bl _, H, I, rfl, q⟩
  · obtain ⟨bs, r2⟩ := Dp.reads I (.tuple ds) y u he ry
    exact SeqAt.notIn_tuple_reads r2 r1 se sd hr ⟨.bl _, H, I, rfl, q⟩
theorem any_py {n m : Nat} {x : D} (hx : sh m x = true) : ∀ {ys : List D}, shL n ys = true → ((toPyL ys).any fun z => PyData.eqv z (toPy x)) = ys.any fun y => eqv y x
  | [], _ => rfl
  | y :: ys, h => by
    simp only [shL, Bool.and_eq_true] at h
    simp only [toPyL, List.any_cons, any_py hx h.2, eqv_py _ _ _ _ h.1 hx]
theorem in_run {x y : V} {d1 d2 : D} {O : Addr → Prop} {H : Hp} {Q : VK} {neg : Bool} {b : Bool} (r1 : RepW K O H d1 x) (r2 : RepW K O H d2 y) (e : gIn d1 d2 = some (.bl b)) (q : Q (.bl (if neg then !b else b)) H) : rInA K neg x y H Q := by
  unfold gIn at e
  split at e
  · split at e
    · rename_i ys h
      cases e
      have h2 : sh (DEP + 1) (.lst ys) = true := by simpa [sh] using h.2
      obtain ⟨a, b⟩ := sh_lay _ d1 h.1
      refine ⟨toPy d1, toPyL ys, dp_w h.1 r1, .inl (by have := dp_w h2 r2; simpa only [toPy] using this), a, (shL_lay _ _ h.2).1, b, ?_⟩
      rw [any_py h.1 h.2]
      exact q
    · cases e
  · split at e
    · rename_i ys h
      cases e
      have h2 : sh (DEP + 1) (.tup ys) = true := by simpa [sh] using h.2
      obtain ⟨a, b⟩ := sh_lay _ d1 h.1
      refine ⟨toPy d1, toPyL ys, dp_w h.1 r1, .inr (by have := dp_w h2 r2; simpa only [toPy] using this), a, (shL_lay _ _ h.2).1, b, ?_⟩
      rw [any_py h.1 h.2]
      exact q
    · cases e
  · cases e
theorem gIn_bl {x c d : D} (e : gIn x c = some d) : ∃ b, d = .bl b := by
  unfold gIn at e
  split at e <;> first | (split at e <;> first | (cases e; exact ⟨_, rfl⟩) | cases e) | cases e
theorem os_in : OpS K (rInA K false) gIn := fun O H x y d1 d2 d Q dm r1 r2 e q => by
  obtain ⟨b, rfl⟩ := gIn_bl e
  exact in_run r1 r2 e (q _ _ (fun _ _ h => h) rfl)
theorem os_ni : OpS K (rInA K true) gNi := fun O H x y d1 d2 d Q dm r1 r2 e q => by
  unfold gNi at e
  split at e
  · rename_i b h
    cases e
    exact in_run r1 r2 h (q _ _ (fun _ _ h => h) rfl)
  · cases e
def isNon : D → Bool
  | .non => true
  | _ => false
theorem repW_non {O : Addr → Prop} {H : Hp} {d : D} {x : V} (r : RepW K O H d x) : decide (x = .non) = isNon d := by
  cases d with
  | non => rw [show x = .non from r]; rfl
  | bl b => rw [show x = .bl b from r]; rfl
  | int b => rw [show x = .int b from r]; rfl
  | str b => rw [show x = .str b from r]; rfl
  | tup b => obtain ⟨a, vs, rfl, _⟩ := r; rfl
  | lst b => obtain ⟨a, vs, rfl, _⟩ := r; rfl
  | dct b => obtain ⟨a, us, rfl, _⟩ := r; rfl
  | dht b => obtain ⟨a, us, rfl, _⟩ := r; rfl
  | own b => obtain ⟨a, rfl⟩ := r; rfl
  | ins c b => obtain ⟨a, rfl⟩ := r; rfl
theorem os_isN : OpS K (fun x y H Q => y = .non ∧ Q (.bl (decide (x = .non))) H) gIsN := fun O H x y d1 d2 d Q dm r1 r2 e q => by
  unfold gIsN at e
  have h := repW_non r1
  split at e
  · cases e; exact ⟨r2, by rw [h]; exact q _ _ (fun _ _ h => h) rfl⟩
  · rename_i hne
    cases e
    refine ⟨r2, ?_⟩
    rw [h]
    cases d1 with
    | non => exact (hne rfl).elim
    | _ => exact q _ _ (fun _ _ h => h) rfl
  · cases e
theorem os_noN : OpS K (fun x y H Q => y = .non ∧ Q (.bl (!decide (x = .non))) H) gNoN := fun O H x y d1 d2 d Q dm r1 r2 e q => by
  unfold gNoN at e
  have h := repW_non r1
  split at e
  · cases e; exact ⟨r2, by rw [h]; exact q _ _ (fun _ _ h => h) rfl⟩
  · rename_i hne
    cases e
    refine ⟨r2, ?_⟩
    rw [h]
    cases d1 with
    | non => exact (hne rfl).elim
    | _ => exact q _ _ (fun _ _ h => h) rfl
  · cases e
theorem os_iB {p : Int → Int → Bool} : OpS K (rI0 fun i j => .bl (p i j)) (iB p) := fun O H x y d1 d2 d Q dm r1 r2 e q => by
  unfold iB at e
  split at e
  · rename_i i j
    cases e
    exact ⟨i, j, r1, r2, q _ _ (fun _ _ h => h) rfl⟩
  · cases e
theorem os_lt : OpS K (rI0 fun i j => .bl (decide (i < j))) gLt := os_iB
theorem os_le : OpS K (rI0 fun i j => .bl (decide (i ≤ j))) gLe := os_iB
theorem os_gt : OpS K (rI0 fun i j => .bl (decide (j < i))) gGt := os_iB
theorem os_ge : OpS K (rI0 fun i j => .bl (decide (j ≤ i))) gGe := os_iB
/-! ### arithmetic -/
theorem os_sub : OpS K (rI0 fun i j => .int (i - j)) Cr.gSub := fun O H x y d1 d2 d Q dm r1 r2 e q => by
  unfold Cr.gSub at e
  split at e
  · rename_i i j
    cases e
    exact ⟨i, j, r1, r2, q _ _ (fun _ _ h => h) rfl⟩
  · cases e
theorem os_mul : OpS K (rI CMul fun i j => .int (i * j)) gMul := fun O H x y d1 d2 d Q dm r1 r2 e q => by
  unfold gMul at e
  split at e
  · rename_i i j
    split at e
    · rename_i h
      cases e
      exact ⟨i, j, r1, r2, h, q _ _ (fun _ _ h => h) rfl⟩
    · cases e
  · cases e
theorem os_fdv : OpS K (rI CDiv fun i j => .int (i / j)) gFdv := fun O H x y d1 d2 d Q dm r1 r2 e q => by
  unfold gFdv at e
  split at e
  · rename_i i j
    split at e
    · rename_i h
      cases e
      exact ⟨i, j, r1, r2, h, q _ _ (fun _ _ h => h) rfl⟩
    · cases e
  · cases e
theorem os_mod : OpS K (rI (fun _ j => 0 < j) fun i j => .int (i % j)) gMod := fun O H x y d1 d2 d Q dm r1 r2 e q => by
  unfold gMod at e
  split at e
  · rename_i i j
    split at e
    · rename_i h
      cases e
      exact ⟨i, j, r1, r2, h, q _ _ (fun _ _ h => h) rfl⟩
    · cases e
  · cases e
theorem os_pow : OpS K (rI CPow fun i j => .int (i ^ j.toNat)) gPow := fun O H x y d1 d2 d Q dm r1 r2 e q => by
  unfold gPow at e
  split at e
  · rename_i i j
    split at e
    · rename_i h
      cases e
      exact ⟨i, j, r1, r2, ⟨h.1, by omega, h.2.2⟩, q _ _ (fun _ _ h => h) rfl⟩
    · cases e
  · cases e
theorem szl {n : Nat} (h : n ≤ 1000000) : n ≤ sizeLine := Nat.le_trans h (by decide)
/-- a + b: ints, texts, tuples -/
def rAddA (K : PySem.W.Frag) : R2 := fun x y H Q => (rI0 fun i j => .int (i + j)) x y H Q ∨ (∃ i j, x = .str i ∧ y = .str j ∧ i.length + j.length ≤ sizeLine ∧ Q (.str (i ++ j)) H) ∨ rCatA K x y H Q
theorem op_addA : OpR X (binaryOp .Add) (rAddA X.K) := OpR.or op_add (OpR.or op_add_str op_catA)
theorem os_add : OpS K (rAddA K) Cr.gAdd := fun O H x y d1 d2 d Q dm r1 r2 e q => by
  unfold Cr.gAdd at e
  split at e
  · rename_i i j
    cases e
    exact .inl ⟨i, j, r1, r2, q _ _ (fun _ _ h => h) rfl⟩
  · rename_i i j
    split at e
    · rename_i h
      cases e
      exact .inr (.inl ⟨i, j, r1, r2, szl h, q _ _ (fun _ _ h => h) rfl⟩)
    · cases e
  · rename_i as bs
    split at e
    · rename_i h
      cases e
      obtain ⟨a, us, rfl, t1, l1⟩ := r1
      obtain ⟨b, ws, rfl, t2, l2⟩ := r2
      refine .inr (.inr ⟨a, b, us, ws, rfl, rfl, t1.sq, t2.sq, by rw [l1.length, l2.length]; exact szl h, fun e1 => ?_, fun _ e2 => ?_, fun _ _ p hp => ?_⟩)
      · have : as = [] := List.eq_nil_of_length_eq_zero (by rw [← l1.length, e1]; rfl)
        subst this
        exact q _ _ (fun _ _ h => h) ⟨b, ws, rfl, t2, l2⟩
      · have : bs = [] := List.eq_nil_of_length_eq_zero (by rw [← l2.length, e2]; rfl)
        subst this
        rw [List.append_nil] at q
        exact q _ _ (fun _ _ h => h) ⟨a, us, rfl, t1, l1⟩
      · exact q _ _ (same_upd hp) (rep_tup dm (l1.append l2) hp)
    · cases e
  · cases e
theorem us_neg : UnS K (rU fun i => .int (-i)) gNeg := fun O H x d1 d Q dm r1 e q => by
  unfold gNeg at e
  split at e
  · rename_i i
    cases e
    exact ⟨i, r1, q _ _ (fun _ _ h => h) rfl⟩
  · cases e
/-! ### items -/
theorem atD_some {α : Type} {xs : List α} {i : Int} {x : α} (h : atD xs i = some x) : ∃ j : Nat, L2.ixN xs.length i = some j ∧ xs[j]? = some x := by
  unfold atD at h
  cases e : Cr.ixN xs.length i with
  | none => rw [e] at h; cases h
  | some j => rw [e] at h; exact ⟨j, e, h⟩
theorem at_rep {O : Addr → Prop} {H : Hp} {xs : List D} {vs : List V} {i : Int} {d : D} (l : RepL K O H xs vs) (h : atD xs i = some d) : ∃ v, atI vs i = some v ∧ Rep K O H d v := by
  obtain ⟨j, e1, e2⟩ := atD_some h
  obtain ⟨v, hv, r⟩ := l.get e2
  refine ⟨v, ?_, r⟩
  unfold atI
  rw [l.length, e1]
  exact hv
theorem os_ix : OpS K (rIx K) gIx := fun O H x y d1 d2 d Q dm r1 r2 e q => by
  unfold gIx at e
  split at e
  · rename_i xs j
    obtain ⟨a, vs, rfl, t, l⟩ := r1
    obtain ⟨v, hv, r⟩ := at_rep l e
    exact .inl ⟨a, vs, j, v, rfl, r2, t, hv, q _ _ (fun _ _ h => h) r⟩
  · rename_i xs j
    obtain ⟨a, vs, rfl, t, l⟩ := r1
    obtain ⟨v, hv, r⟩ := at_rep l e
    exact .inr (.inl ⟨a, vs, j, v, rfl, r2, t.sq, hv, q _ _ (fun _ _ h => h) r⟩)
  · rename_i s j
    split at e
    · rename_i h
      cases e1 : atD s.cps.toList j with
      | none => rw [e1] at e; cases e
      | some c =>
        rw [e1] at e
        cases e
        obtain ⟨k, e2, e3⟩ := atD_some e1
        refine .inr (.inr ⟨s, j, c, r1, r2, szl h, ?_, q _ _ (fun _ _ h => h) rfl⟩)
        unfold atI
        rw [e2]
        exact e3
    · cases e
  · cases e
/-! ### built-ins -/
theorem wl1 {O : Addr → Prop} {H : Hp} {d : D} {vs : List V} (r : RepWL K O H [d] vs) : ∃ v, vs = [v] ∧ RepW K O H d v := by
  cases r with
  | cons r1 r2 => cases r2; exact ⟨_, rfl, r1⟩
theorem wl2 {O : Addr → Prop} {H : Hp} {d d' : D} {vs : List V} (r : RepWL K O H [d, d'] vs) : ∃ v v', vs = [v, v'] ∧ RepW K O H d v ∧ RepW K O H d' v' := by
  cases r with
  | cons r1 r2 =>
    cases r2 with
    | cons r3 r4 => cases r4; exact ⟨_, _, rfl, r1, r3⟩
theorem cs_len : CallS K (fun xs H Q => ∃ x n, xs = [x] ∧ LenV K x H n ∧ Q (.int n) H) bLen := fun O H vs ds d Q dm r e q => by
  unfold bLen at e
  split at e
  · cases e
    obtain ⟨v, rfl, a, us, rfl, t, l⟩ := wl1 r
    exact ⟨_, us.length, rfl, .inl ⟨us, t, rfl⟩, by rw [l.length]; exact q _ _ (fun _ _ h => h) rfl⟩
  · cases e
    obtain ⟨v, rfl, a, us, rfl, t, l⟩ := wl1 r
    exact ⟨_, us.length, rfl, .inr ⟨us, t.sq, rfl⟩, by rw [l.length]; exact q _ _ (fun _ _ h => h) rfl⟩
  · rename_i s
    split at e
    · rename_i h
      cases e
      obtain ⟨v, rfl, r1⟩ := wl1 r
      rw [show v = .str s from r1]
      exact ⟨_, s.length, rfl, ⟨szl h, rfl⟩, q _ _ (fun _ _ h => h) rfl⟩
    · cases e
  · cases e
theorem cs_abs : CallS K (fun xs H Q => ∃ i, xs = [.int i] ∧ Q (.int (if i < 0 then -i else i)) H) bAbs := fun O H vs ds d Q dm r e q => by
  unfold bAbs at e
  split at e
  · rename_i i
    cases e
    obtain ⟨v, rfl, r1⟩ := wl1 r
    exact ⟨i, by rw [show v = .int i from r1], q _ _ (fun _ _ h => h) rfl⟩
  · cases e
theorem cs_int : CallS K (fun xs H Q => (∃ i, xs = [.int i] ∧ Q (.int i) H) ∨ ∃ k, xs = [.bl k] ∧ Q (.int (if k then 1 else 0)) H) bInt := fun O H vs ds d Q dm r e q => by
  unfold bInt at e
  split at e
  · rename_i i
    cases e
    obtain ⟨v, rfl, r1⟩ := wl1 r
    exact .inl ⟨i, by rw [show v = .int i from r1], q _ _ (fun _ _ h => h) rfl⟩
  · rename_i i
    cases e
    obtain ⟨v, rfl, r1⟩ := wl1 r
    exact .inr ⟨i, by rw [show v = .bl i from r1], q _ _ (fun _ _ h => h) rfl⟩
  · cases e
theorem cs_max2 : CallS K (fun xs H Q => ∃ i j, xs = [.int i, .int j] ∧ Q (.int (if j > i then j else i)) H) bMax2 := fun O H vs ds d Q dm r e q => by
  unfold bMax2 at e
  split at e
  · rename_i i j
    cases e
    obtain ⟨v, v', rfl, r1, r2⟩ := wl2 r
    exact ⟨i, j, by rw [show v = .int i from r1, show v' = .int j from r2], q _ _ (fun _ _ h => h) rfl⟩
  · cases e
theorem cs_min2 : CallS K (fun xs H Q => ∃ i j, xs = [.int i, .int j] ∧ Q (.int (if j < i then j else i)) H) bMin2 := fun O H vs ds d Q dm r e q => by
  unfold bMin2 at e
  split at e
  · rename_i i j
    cases e
    obtain ⟨v, v', rfl, r1, r2⟩ := wl2 r
    exact ⟨i, j, by rw [show v = .int i from r1, show v' = .int j from r2], q _ _ (fun _ _ h => h) rfl⟩
  · cases e
theorem intsD_rep {O : Addr → Prop} {H : Hp} : ∀ {xs : List D} {ns : List Int} {vs : List V}, intsD xs = some ns → RepL K O H xs vs → vs = ns.map V.int
  | [], ns, vs, e, r => by
    cases e
    exact r
  | .int i :: xs, ns, vs, e, r => by
    simp only [intsD, Option.map_eq_some_iff] at e
    obtain ⟨ms, h, rfl⟩ := e
    obtain ⟨v, us, rfl, r1, r2⟩ := r
    rw [show v = .int i from r1, intsD_rep h r2]
    rfl
  | .non :: _, _, _, e, _ | .bl _ :: _, _, _, e, _ | .str _ :: _, _, _, e, _ | .tup _ :: _, _, _, e, _ | .lst _ :: _, _, _, e, _ | .dct _ :: _, _, _, e, _ | .dht _ :: _, _, _, e, _ | .own _ :: _, _, _, e, _ | .ins _ _ :: _, _, _, e, _ => by simp [intsD] at e
theorem cs_sum : CallS K (rSum K) bSum := fun O H vs ds d Q dm r e q => by
  unfold bSum at e
  split at e
  · rename_i xs
    cases h : intsD xs with
    | none => rw [h] at e; cases e
    | some ns =>
      rw [h] at e
      cases e
      obtain ⟨v, rfl, a, us, rfl, t, l⟩ := wl1 r
      rw [intsD_rep h l] at t
      exact ⟨a, ns, rfl, t, q _ _ (fun _ _ h => h) rfl⟩
  · cases e
theorem cn_list : CallN K (fun xs H Q => ∃ p ys, xs = [.ref p] ∧ (SqL K H p ys ∨ SqT K H p ys) ∧ ∀ l, H l = none → Q (.ref l) (upd H l (.lst ys))) bList := fun O H vs ds d Q dm r e q => by
  unfold bList at e
  split at e
  · cases e
    obtain ⟨v, rfl, a, us, rfl, t, l⟩ := wl1 r
    exact ⟨a, us, rfl, .inl t, fun p hp => q p _ _ rfl hp l⟩
  · cases e
    obtain ⟨v, rfl, a, us, rfl, t, l⟩ := wl1 r
    exact ⟨a, us, rfl, .inr t.sq, fun p hp => q p _ _ rfl hp l⟩
  · cases e
theorem cs_tuple : CallS K (fun xs H Q => ∃ p ys, xs = [.ref p] ∧ ((SqL K H p ys ∧ ∀ l, H l = none → Q (.ref l) (upd H l (.tup ys))) ∨ (SqT K H p ys ∧ Q (.ref p) H))) bTuple := fun O H vs ds d Q dm r e q => by
  unfold bTuple at e
  split at e
  · cases e
    obtain ⟨v, rfl, a, us, rfl, t, l⟩ := wl1 r
    exact ⟨a, us, rfl, .inl ⟨t, fun p hp => q _ _ (same_upd hp) (rep_tup dm l hp)⟩⟩
  · cases e
    obtain ⟨v, rfl, a, us, rfl, t, l⟩ := wl1 r
    exact ⟨a, us, rfl, .inr ⟨t.sq, q _ _ (fun _ _ h => h) ⟨a, us, rfl, t, l⟩⟩⟩
  · cases e
end
end Lk

end
section
set_option maxRecDepth 100000
set_option maxHeartbeats 4000000
/-! Lk10: the rules of calls; what changes a list; a slot's own list that is walked. -/
namespace Lk
open PySem PySem.Spec PyProof.Rows L2 Cr
section
variable {X : Cx} {C : Cc} {e o : Expr} {es : List Expr} {x : Str} {p pos apos : Pos} {as : List Opd} {r : List V → Hp → VK → Prop} {g : List D → Option D} {id T : String}
/-! ### calls -/
theorem re_callB (hc : CallR X (.builtin id) r) (hs : CallS C.K r g) (hg : Gl X x) (hm : X.mg x = none) (hv : bootBuiltins x = some (.builtin id)) (ha : PA X (e :: es) (tAs C as)) (hn : x ≠ "__name__" := by decide) (hdb : (x == ("__debug__" : Str)) = false := by decide)
    (he : starEach (e :: es) X.env = (false, eval e X.env) :: starEach es X.env := by rfl) (hpl : (backTo pos (starEach es X.env)).any (·.1) = false := by rfl) : PE X (.Call (.Name x p) (e :: es) [] pos) (tE C (callB g as)) :=
  PE.mono (pe_callB hc hg hm hv ha hn hdb he hpl) fun σ H Q h => callB_run hs h
theorem rf_callB (hc : CallR X (.builtin id) r) (hs : CallN C.K r g) (hg : Gl X x) (hm : X.mg x = none) (hv : bootBuiltins x = some (.builtin id)) (ha : PA X (e :: es) (tAs C as)) (hn : x ≠ "__name__" := by decide) (hdb : (x == ("__debug__" : Str)) = false := by decide)
    (he : starEach (e :: es) X.env = (false, eval e X.env) :: starEach es X.env := by rfl) (hpl : (backTo pos (starEach es X.env)).any (·.1) = false := by rfl) : PE X (.Call (.Name x p) (e :: es) [] pos) (tF C .ol (callB g as)) :=
  PE.mono (pe_callB hc hg hm hv ha hn hdb he hpl) fun σ H Q h => callN_run hs h
theorem re_callTy (hc : CallR X (.type T) r) (hs : CallS C.K r g) (hg : Gl X x) (hm : X.mg x = none) (hv : bootBuiltins x = some (.type T)) (ha : PA X (e :: es) (tAs C as)) (hn : x ≠ "__name__" := by decide) (hdb : (x == ("__debug__" : Str)) = false := by decide)
    (he : starEach (e :: es) X.env = (false, eval e X.env) :: starEach es X.env := by rfl) (hpl : (backTo pos (starEach es X.env)).any (·.1) = false := by rfl) : PE X (.Call (.Name x p) (e :: es) [] pos) (tE C (callB g as)) :=
  PE.mono (pe_callTy hc hg hm hv ha hn hdb he hpl) fun σ H Q h => callB_run hs h
theorem rf_callTy (hc : CallR X (.type T) r) (hs : CallN C.K r g) (hg : Gl X x) (hm : X.mg x = none) (hv : bootBuiltins x = some (.type T)) (ha : PA X (e :: es) (tAs C as)) (hn : x ≠ "__name__" := by decide) (hdb : (x == ("__debug__" : Str)) = false := by decide)
    (he : starEach (e :: es) X.env = (false, eval e X.env) :: starEach es X.env := by rfl) (hpl : (backTo pos (starEach es X.env)).any (·.1) = false := by rfl) : PE X (.Call (.Name x p) (e :: es) [] pos) (tF C .ol (callB g as)) :=
  PE.mono (pe_callTy hc hg hm hv ha hn hdb he hpl) fun σ H Q h => callN_run hs h
variable {k j : Nat} {f : Addr} {fd : FuncData} {ps : List Str} {pm : List Md} {rm : Md} {cl : Nat → Addr} {fn : Fn} {E : XK}
/-- f(e, ..), f a def -/
theorem rf_call (F : FnG X.prog X.w X.K X.mg X.base (CXA X.prog X.w) k f fd ps (spF C.K pm rm cl fn)) (hr : RoomG k X.A) (hg : Gl X x) (hm : X.mg x = some (.ref f)) (hk : PySem.W.keepIn X.K (.ref f) = true) (hb : Binds X.K fd ps [])
    (hx : Passes (CXA X.prog X.w) X E) (hE : ∀ c σ H', C.W c σ H' → E (.ref (cl c)) none H') (ha : PA X (e :: es) (tAs C as)) (hf : fits C.G as pm = true) (hn : (slots as).Nodup) (hdb : (x == ("__debug__" : Str)) = false := by decide)
    (he : starEach (e :: es) X.env = (false, eval e X.env) :: starEach es X.env := by rfl) (hpl : (backTo pos (starEach es X.env)).any (·.1) = false := by rfl) : PE X (.Call (.Name x p) (e :: es) [] pos) (tF C rm (callF fn as)) :=
  PE.mono (pe_callG F hr hg hm hk hb hx ha hdb he hpl) fun σ H Q h => callF_run (E := E) hf hn (fun c H' => hE c σ H') h
/-- .. as data -/
theorem re_call (F : FnG X.prog X.w X.K X.mg X.base (CXA X.prog X.w) k f fd ps (spF C.K pm .dat cl fn)) (hr : RoomG k X.A) (hg : Gl X x) (hm : X.mg x = some (.ref f)) (hk : PySem.W.keepIn X.K (.ref f) = true) (hb : Binds X.K fd ps [])
    (hx : Passes (CXA X.prog X.w) X E) (hE : ∀ c σ H', C.W c σ H' → E (.ref (cl c)) none H') (ha : PA X (e :: es) (tAs C as)) (hf : fits C.G as pm = true) (hn : (slots as).Nodup) (hdb : (x == ("__debug__" : Str)) = false := by decide)
    (he : starEach (e :: es) X.env = (false, eval e X.env) :: starEach es X.env := by rfl) (hpl : (backTo pos (starEach es X.env)).any (·.1) = false := by rfl) : PE X (.Call (.Name x p) (e :: es) [] pos) (tE C (callF fn as)) :=
  re_fe (rf_call F hr hg hm hk hb hx hE ha hf hn hdb he hpl)
/-! ### isinstance -/
def tyN : Ty → String
  | .int => "int" | .bool => "bool" | .tuple => "tuple" | .list => "list" | .str => "str"
theorem kit_nt : ∀ (T : Ty) (b : Bool), True := fun _ _ => trivial
theorem wr_tyL {K : PySem.W.Frag} {H : Hp} {a : Addr} {vs : List V} (h : SqL K H a vs) : TyX K H (.ref a) (.type "list") := by
  rcases h with (h | ⟨o, h⟩) | ⟨o, its, n, h, c, _⟩
  · exact .base (.lst h)
  · exact .base (.frz h)
  · exact .kList h c
theorem wr_tyT {K : PySem.W.Frag} {H : Hp} {a : Addr} {vs : List V} (h : SqT K H a vs) : TyX K H (.ref a) (.type "tuple") := by
  rcases h with (h | ⟨o, h⟩) | ⟨o, its, n, h, c, _⟩
  · exact .base (.tup h)
  · exact .fTuple h
  · exact .kTuple h c
theorem isi_run {K : PySem.W.Frag} {O : Addr → Prop} {H : Hp} {T : Ty} {d : D} {b : Bool} {v : V} (r : RepW K O H d v) (e : isi T d = some b) : ∃ t, TyX K H v (.type t) ∧ PySem.W.kitOne K (.type t) (.type (tyN T)) = some b := by
  cases d with
  | non =>
    rw [show v = .non from r]
    refine ⟨"NoneType", .base .non, ?_⟩
    cases T <;> (cases e; exact kit_ty (by decide +kernel))
  | bl k =>
    rw [show v = .bl k from r]
    refine ⟨"bool", .base (.bl k), ?_⟩
    cases T <;> (cases e; exact kit_ty (by decide +kernel))
  | int k =>
    rw [show v = .int k from r]
    refine ⟨"int", .base (.int k), ?_⟩
    cases T <;> (cases e; exact kit_ty (by decide +kernel))
  | str k =>
    rw [show v = .str k from r]
    refine ⟨"str", .base (.str k), ?_⟩
    cases T <;> (cases e; exact kit_ty (by decide +kernel))
  | tup k =>
    obtain ⟨a, vs, rfl, t, l⟩ := r
    refine ⟨"tuple", wr_tyT t.sq, ?_⟩
    cases T <;> (cases e; exact kit_ty (by decide +kernel))
  | lst k =>
    obtain ⟨a, vs, rfl, t, l⟩ := r
    refine ⟨"list", wr_tyL t, ?_⟩
    cases T <;> (cases e; exact kit_ty (by decide +kernel))
  | dct k => cases T <;> cases e
  | dht k => cases T <;> cases e
  | own k => cases T <;> cases e
  | ins k _ => cases T <;> cases e
theorem re_isi {o : Opd} {e2 : Expr} {T : Ty} (hg : Gl X "isinstance") (hm : X.mg "isinstance" = none) (ha : PE X e (tO C o)) (ht : PE X e2 (tC (.ty (tyN T)))) (hX : X.K = C.K)
    (he : starEach (e :: e2 :: []) X.env = (false, eval e X.env) :: starEach (e2 :: []) X.env := by rfl) (he2 : starEach (e2 :: []) X.env = (false, eval e2 X.env) :: starEach [] X.env := by rfl) (hpl : (backTo pos (starEach (e2 :: []) X.env)).any (·.1) = false := by rfl) :
    PE X (.Call (.Name "isinstance" p) [e, e2] [] pos) (tE C (un (gIsi T) o)) := by
  refine PE.mono (pe_callB call_isi hg hm (by decide +kernel) (pa_cons ha (pa_cons ht pa_nil he2) he) (by decide) (by decide) he hpl) fun σ H Q h => tO.imp (one h) fun v H1 ⟨O, d1, d, dm, r1, e1, q⟩ => ?_
  unfold gIsi at e1
  cases ei : isi T d1 with
  | none => rw [ei] at e1; cases e1
  | some b =>
    rw [ei] at e1
    cases e1
    obtain ⟨t, ty, k⟩ := isi_run r1 ei
    rw [hX]
    exact ⟨v, .ty (tyN T), .type t, .type (tyN T), b, rfl, .ty _, ty, k, q _ _ (fun _ _ h => h) rfl⟩
end
/-! ### what changes a list -/
section
variable {C : Cc} {σ : L2.St} {H : Hp} {F : Fp} {P : Addr → Prop} {ε : Sl} {i : Nat}
/-- slot i's own list becomes another -/
theorem RepE.mut (R : RepE C.K C.G H σ ε F P) {a : Addr} {ds : List D} {vs us : List V} (hG : C.G i = .ol) (hs : σ[i]? = some (some (.ref a))) (hF : F i = [a]) (l : RepL C.K (Own F P) H ds us) (hi : i < ε.length) (hv : H a = some (.lst vs)) :
    RepE C.K C.G (upd H a (.lst us)) σ (ε.set i (some (.lst ds))) F P ∧ Fr F H F (upd H a (.lst us)) := by
  have oa : Own F P a := .inr ⟨i, by rw [hF]; exact List.mem_singleton.mpr rfl⟩
  refine ⟨⟨by simp [R.len], fun j d e => ?_, fun j no => ?_, R.sep, R.out, fun b z => ?_⟩, fun b o h n => ?_, fun j b z => .inl ⟨j, z⟩, fun b n => ?_⟩
  · by_cases ej : j = i
    · subst ej
      rw [List.getElem?_set_self hi] at e
      cases e
      refine ⟨_, hs, ?_⟩
      rw [hG, hF]
      exact ⟨a, us, ds, rfl, rfl, rfl, upd_same, RepL.move (keeps_upd oa) (fun b z => .inl z) _ _ l⟩
    · rw [List.getElem?_set_ne (Ne.symm ej)] at e
      obtain ⟨u, hu, r⟩ := R.val j d e
      refine ⟨u, hu, r.move (keeps_upd oa) (fun b z => .inl z) fun b hb o ho => ?_⟩
      rw [upd_ne fun z => ej (R.sep j i b hb (by rw [hF, z]; exact List.mem_singleton.mpr rfl))]
      exact ho
  · by_cases ej : j = i
    · subst ej; exact absurd (List.getElem?_set_self hi) (no _)
    · refine R.non j fun d => ?_
      have := no d
      rwa [List.getElem?_set_ne (Ne.symm ej)] at this
  · by_cases q : b = a
    · rw [q, upd_same]; intro z; cases z
    · rw [upd_ne q]; exact R.dom b z
  · rw [upd_ne fun z => n i (by rw [hF, z]; exact List.mem_singleton.mpr rfl)]
    exact h
  · by_cases q : b = a
    · rw [q, upd_same]; intro z; cases z
    · rw [upd_ne q]; exact n
theorem RepE.ol (R : RepE C.K C.G H σ ε F P) (hG : C.G i = .ol) {d : D} (e : ε[i]? = some (some d)) : ∃ a vs ds, d = .lst ds ∧ σ[i]? = some (some (.ref a)) ∧ F i = [a] ∧ H a = some (.lst vs) ∧ RepL C.K (Own F P) H ds vs ∧ i < ε.length := by
  obtain ⟨v, hv, r⟩ := R.val i d e
  rw [hG] at r
  obtain ⟨a, vs, ds, rfl, rfl, h1, h2, h3⟩ := r
  exact ⟨a, vs, ds, rfl, hv, h1, h2, h3, (List.getElem?_eq_some_iff.mp e).1⟩
end
section
variable {X : Cx} {C : Cc} {o e : Expr} {x : Str} {p pos apos cpos spos tpos : Pos} {m mk : M D} {i : Nat}
/-- x.append(e) -/
theorem rs_app {st : Stmt} (hG : C.G i = .ol) (h : PS X st (tDrop (tBM C.K "list" rAppend (tVar i) (tCons (tE C m) tNil)))) : PS X st (tS C (appS i m)) := PS.mono h fun D σ H ⟨ε, F, P, R, h⟩ => by
  unfold appS at h
  obtain ⟨d0, e0, h1⟩ := (OkS.stp.bd h).rd
  have h2 := h1 H F R Fr.refl
  obtain ⟨a, vs, ds, rfl, hs, hF, ha, l, hi⟩ := R.ol hG e0
  refine ⟨.ref a, hs, .inl ⟨rfl, vs, .inl (.inl ha)⟩, ?_⟩
  refine tE.imp (gE_bd OkS.stp R h2) fun v H1 ⟨y, ε1, F1, R1, y1, r1, h3⟩ => ?_
  obtain ⟨d1, e1, h4⟩ := (OkS.stp.bd h3).rd
  have h5 := h4 H1 F1 R1 Fr.refl
  obtain ⟨a', vs', ds', rfl, hs', hF', ha', l', hi'⟩ := R1.ol hG e1
  have : a' = a := by rw [hs] at hs'; cases hs'; rfl
  subst this
  simp only at h5
  by_cases hz : ds'.length < LIM
  · rw [if_pos hz] at h5
    simp only [bd, wr, if_pos hi'] at h5
    refine ⟨a', vs', v, rfl, rfl, ha', Nat.lt_of_lt_of_le (by rw [l'.length]; exact hz) (by decide), ?_⟩
    obtain ⟨R2, y2⟩ := R1.mut (us := vs' ++ [v]) hG hs hF' (l'.append (RepL.one r1)) hi' ha'
    exact h5 σ _ F1 R2 y2 Pin.refl
  · rw [if_neg hz] at h5
    exact h5.elim
/-- x[k] = e -/
theorem rs_setI {st : Stmt} (hG : C.G i = .ol) (h : PS X st (tAsg (tE C m) (gSub (tVar i) (tE C mk) rSetL))) : PS X st (tS C (setS i mk m)) := PS.mono h fun D σ H ⟨ε, F, P, R, h⟩ => by
  refine tE.imp (gE_bd OkS.stp R h) fun v H1 ⟨y, ε1, F1, R1, y1, r1, h1⟩ => ?_
  obtain ⟨d0, e0, h2⟩ := (OkS.stp.bd h1).rd
  have h3 := h2 H1 F1 R1 Fr.refl
  obtain ⟨a, vs, ds, rfl, hs, hF, ha, l, hi⟩ := R1.ol hG e0
  refine ⟨.ref a, hs, ?_⟩
  refine tE.imp (gE_bd OkS.stp R1 h3) fun kv H2 ⟨kd, ε2, F2, R2, y2, r2, h4⟩ => ?_
  obtain ⟨d1, e1, h5⟩ := (OkS.stp.bd h4).rd
  have h6 := h5 H2 F2 R2 Fr.refl
  obtain ⟨a', vs', ds', rfl, hs', hF', ha', l', hi'⟩ := R2.ol hG e1
  have : a' = a := by rw [hs] at hs'; cases hs'; rfl
  subst this
  cases kd with
  | int j =>
    simp only at h6
    cases en : Cr.ixN ds'.length j with
    | none => rw [en] at h6; exact h6.elim
    | some n =>
      rw [en] at h6
      simp only [bd, wr, if_pos hi'] at h6
      refine ⟨a', vs', j, n, rfl, r2, ha', by rw [l'.length]; exact en, ?_⟩
      obtain ⟨R3, y3⟩ := R2.mut (us := vs'.set n v) hG hs hF' (l'.set (y2.rep r1)) hi' ha'
      exact h6 σ _ F2 R3 y3 Pin.refl
  | _ => exact h6.elim
/-- return x, x a slot's own list: it is let go -/
theorem RepE.letgo {σ : L2.St} {H : Hp} {F : Fp} {P : Addr → Prop} {ε : Sl} {v : V} {d : D} (R : RepE C.K C.G H σ ε F P) (e : ε[i]? = some (some d)) (hv : σ[i]? = some (some v)) :
    RepE C.K C.G H σ (ε.set i none) (Fset F i []) (fun a => P a ∨ a ∈ F i) ∧ RepM C.K (Own (Fset F i []) (fun a => P a ∨ a ∈ F i)) H (C.G i) d v (F i) := by
  have iff : ∀ a, Own (Fset F i []) (fun a => P a ∨ a ∈ F i) a ↔ Own F P a := fun a => by
    constructor
    · rintro ((z | z) | ⟨j, z⟩)
      · exact .inl z
      · exact .inr ⟨i, z⟩
      · by_cases ej : j = i
        · subst ej; rw [Fset_same] at z; cases z
        · rw [Fset_ne ej] at z; exact .inr ⟨j, z⟩
    · rintro (z | ⟨j, z⟩)
      · exact .inl (.inl z)
      · by_cases ej : j = i
        · subst ej; exact .inl (.inr z)
        · exact .inr ⟨j, by rw [Fset_ne ej]; exact z⟩
  have g : Grows (Own F P) (Own (Fset F i []) (fun a => P a ∨ a ∈ F i)) H := fun a z => .inl ((iff a).mp z)
  have hi : i < ε.length := (List.getElem?_eq_some_iff.mp e).1
  obtain ⟨u, hu, r⟩ := R.val i d e
  rw [hv] at hu
  cases hu
  refine ⟨⟨by simp [R.len], fun j x q => ?_, fun j no => ?_, fun j k b h h' => ?_, fun j b h z => ?_, fun b z => R.dom b ((iff b).mp z)⟩, r.move Keeps.rfl' g fun _ _ _ h => h⟩
  · by_cases ej : j = i
    · subst ej; rw [List.getElem?_set_self hi] at q; cases q
    · rw [List.getElem?_set_ne (Ne.symm ej)] at q
      obtain ⟨u, hu, r⟩ := R.val j x q
      refine ⟨u, hu, ?_⟩
      rw [Fset_ne ej]
      exact r.move Keeps.rfl' g fun _ _ _ h => h
  · by_cases ej : j = i
    · subst ej; exact Fset_same
    · rw [Fset_ne ej]
      refine R.non j fun d => ?_
      have := no d
      rwa [List.getElem?_set_ne (Ne.symm ej)] at this
  · by_cases ej : j = i
    · subst ej; rw [Fset_same] at h; cases h
    · by_cases ek : k = i
      · subst ek; rw [Fset_same] at h'; cases h'
      · rw [Fset_ne ej] at h; rw [Fset_ne ek] at h'; exact R.sep j k b h h'
  · by_cases ej : j = i
    · subst ej; rw [Fset_same] at h; cases h
    · rw [Fset_ne ej] at h
      rcases z with z | z
      · exact R.out j b h z
      · exact ej (R.sep j i b h z)
theorem retO_run {D : Ends} {σ : L2.St} {H : Hp} (hp : C.pin i = false) (hr : C.rm = C.G i ∨ C.rm = .dat) (hmd : decide (C.rm = .dat ∧ C.G i = .oll) = false) (h : tS C (retO i) D σ H) : tRet (tVar i) D σ H := by
  obtain ⟨ε, F, P, R, h⟩ := h
  obtain ⟨d, e, h1⟩ := (OkS.stp.bd h).rd
  have h2 := h1 H F R Fr.refl
  obtain ⟨v, hv, r⟩ := R.val i d e
  obtain ⟨R1, r1⟩ := R.letgo e hv
  refine ⟨v, hv, ?_⟩
  have y : Fr F H (Fset F i []) H := ⟨fun _ _ h _ => h, fun j a z => by
    by_cases ej : j = i
    · subst ej; rw [Fset_same] at z; cases z
    · rw [Fset_ne ej] at z; exact .inl ⟨j, z⟩, fun _ h => h⟩
  rcases hr with hr | hr
  · exact h2 v σ H _ (F i) R1 y Pin.refl (fun a ha => .inl ⟨i, ha⟩) (by rw [hr]; exact r1)
  · have R2 := R1.weakP (P := P) fun a z => .inl z
    refine h2 v σ H _ [] R2.nilP y Pin.refl (fun a ha => by cases ha) ?_
    rw [hr]
    refine ⟨rfl, (RepM.toDat (F := Fset F i []) (P := P) (fun z => of_decide_eq_false hmd ⟨hr, z⟩) r1 fun a ha z => ?_).nilP⟩
    rcases z with z | ⟨j, z⟩
    · exact R.out i a ha z
    · by_cases ej : j = i
      · subst ej; rw [Fset_same] at z; cases z
      · rw [Fset_ne ej] at z; exact ej (R.sep j i a z ha)
theorem rs_retO {e : Expr} (hp : C.pin i = false) (hr : C.rm = C.G i ∨ C.rm = .dat) (h : PE X e (tVar i)) (hmd : decide (C.rm = .dat ∧ C.G i = .oll) = false := by rfl) : PS X (.Return (some e) pos) (tS C (retO i)) := PS.mono (ps_ret h) fun D σ H q => retO_run hp hr hmd q
end
end Lk

end
section
set_option maxRecDepth 100000
set_option maxHeartbeats 4000000
/-! Lk11: walks of a slot's own list, truth, chains, calls that read. -/
namespace Lk
open PySem PySem.Spec PyProof.Rows L2 Cr
theorem hu65 {k : Nat} {A : Around} (r : RoomG k A) : A.units + 65 < cLine := by have := r.un; omega
section
variable {X : Cx} {C : Cc} {a b c e : Expr} {pos : Pos} {oa : Opd} {ma mb mc : M D} {r r' : R2} {g g' : D → D → Option D}
theorem tru_w {K : PySem.W.Frag} {O : Addr → Prop} {H : Hp} {d : D} {v : V} {k : Bool} (r : RepW K O H d v) (e : truth d = some k) : TruV K v H k := by
  cases d with
  | non => rw [show v = .non from r]; cases e; rfl
  | bl b => rw [show v = .bl b from r]; cases e; rfl
  | int i => rw [show v = .int i from r]; cases e; rfl
  | str s =>
    rw [show v = .str s from r]
    have e : (if s.length ≤ 1000000 then some (s.length != 0) else none) = some k := e
    split at e
    · rename_i h
      cases e
      refine ⟨szl h, ?_⟩
      cases hs : s.length with
      | zero => rfl
      | succ n =>
        have : (((n + 1 : Nat) : Int) != 0) = true := by simp; omega
        rw [this]
        simp
    · cases e
  | tup xs =>
    obtain ⟨p, vs, rfl, t, l⟩ := r
    cases e
    refine .inr (.inl ⟨vs, t.sq, ?_⟩)
    have := l.length
    cases xs <;> cases vs <;> first | rfl | simp at this
  | lst xs =>
    obtain ⟨p, vs, rfl, t, l⟩ := r
    cases e
    refine .inl ⟨vs, t, ?_⟩
    have := l.length
    cases xs <;> cases vs <;> first | rfl | simp at this
  | dct xs =>
    obtain ⟨p, us, rfl, t, l⟩ := r
    cases e
    refine .inr (.inr ⟨us, t, ?_⟩)
    cases xs with
    | nil => rw [show us = [] from l]; rfl
    | cons x xs =>
      obtain ⟨u, r, rfl, _⟩ := l
      rfl
  | dht xs => cases e
  | own xs => cases e
  | ins c xs => cases e
theorem rt_tru (hX : X.K = C.K) (h : PE X e (tO C oa)) (he : ∀ whole, isTrue e X.env whole = (do let v ← whole; standAt e.pos; holding [v] (truthy v)) := by intro _; rfl) : PT X e (tT C (tru oa)) := by
  refine PT.mono (pt_truth h he) fun σ H Q ⟨ε, F, P, R, h⟩ => ?_
  cases oa with
  | d m =>
    refine tE.imp (gE_bd Okk.stp R h) fun v H1 ⟨d, ε1, F1, R1, y1, r1, h1⟩ => ?_
    obtain ⟨k, ek, q⟩ := h1.opt
    rw [hX]
    exact ⟨k, tru_w r1.w ek, q _ _ R1 Fr.refl⟩
  | o i =>
    obtain ⟨d, ed, h1⟩ := (Okk.stp.bd h).rd
    obtain ⟨v, hv, r⟩ := R.val i d ed
    obtain ⟨k, ek, q⟩ := (h1 _ _ R Fr.refl).opt
    refine ⟨v, hv, k, ?_, q _ _ R Fr.refl⟩
    rw [hX]
    exact tru_w r.w ek
theorem chain_run (hs : OpS C.K r g) (hs' : OpS C.K r' g') {σ : L2.St} {H : Hp} {Q : VK} (h : tE C (chain g g' ma mb mc) σ H Q) : tChain r r' (tE C ma) (tE C mb) (tE C mc) σ H Q := by
  obtain ⟨ε, F, P, R, h⟩ := h
  refine tE.imp (gE_bd Okk.stp R h) fun x H1 ⟨d1, ε1, F1, R1, y1, r1, h1⟩ => ?_
  refine tE.imp (gE_bd Okk.stp R1 h1) fun y H2 ⟨d2, ε2, F2, R2, y2, r2, h2⟩ => ?_
  obtain ⟨d3, e3, h3⟩ := (Okk.stp.bd h2).opt
  refine hs (Own F2 P) H2 x y d1 d2 d3 _ R2.dom (y2.rep r1).w r2.w e3 fun z H3 ext r3 => ?_
  have R3 := R2.grow ext
  have h4 := h3 H3 F2 R3 (Fr.ext ext)
  obtain ⟨k, ek, h5⟩ := toB_run R3 r3 h4
  refine ⟨k, ek, ?_⟩
  cases k with
  | true =>
    refine iteT (tE.imp (gE_bd Okk.stp R3 h5) fun w' H4 ⟨d4, ε4, F4, R4, y4, r4, h6⟩ => ?_)
    obtain ⟨d, ed, q⟩ := fin R4 h6
    exact hs' (Own F4 P) H4 y w' d2 d4 d _ R4.dom (((Fr.ext (F := F2) ext).trans y4).rep r2).w r4.w ed q
  | false => exact iteF (Okk.here h5 R3 _ rfl)
theorem re_chain {op op' : CmpOp} (ho : OpR X (compareOp op) r) (hs : OpS C.K r g) (ho' : OpR X (compareOp op') r') (hs' : OpS C.K r' g') (ha : PE X a (tE C ma)) (hb : PE X b (tE C mb)) (hc : PE X c (tE C mc))
    (hm : lastMarks [op, op'] [b, c] = false := by with_unfolding_all rfl) : PE X (.Compare a [op, op'] [b, c] pos) (tE C (chain g g' ma mb mc)) := PE.mono (pe_chain ho ho' ha hb hc hm) fun σ H Q h => chain_run hs hs' h
theorem rt_chain {op op' : CmpOp} (ho : OpR X (compareOp op) r) (hs : OpS C.K r g) (ho' : OpR X (compareOp op') r') (hs' : OpS C.K r' g') (ha : PE X a (tE C ma)) (hb : PE X b (tE C mb)) (hc : PE X c (tE C mc))
    (hm : lastMarks [op, op'] [b, c] = false := by with_unfolding_all rfl) : PT X (.Compare a [op, op'] [b, c] pos) (tT C (tstB (chain g g' ma mb mc))) := PT.mono (pt_chain ho ho' ha hb hc hm) fun σ H Q h => chain_run hs hs' (test_run (R := fun _ _ => True) h)
end
/-! ### a slot's own list, walked as it stands at each turn -/
section
variable {X : Cx} {C : Cc} {elt tg : Expr} {ifs : List Expr} {scope : Scope} {own : List (Str × Nat)} {pos p : Pos} {t : Tg} {c : M Bool} {x : M D} {vs : List Nat} {i : Nat} {nm : Str} {l : Expr}
theorem compO_cons {n k : Nat} {acc : List D} {e : Sl} {ys : List D} {e2 : Sl} (h : compO i vs t c x n k acc e = .ok ys e2) :
    ∃ m xs, n = m + 1 ∧ e[i]? = some (some (.lst xs)) ∧ ((xs[k]? = none ∧ ys = acc ∧ e2 = e) ∨ ∃ d e3 b e4, xs[k]? = some d ∧ t d (wipeE e vs) = some e3 ∧ c e3 = .ok b e4 ∧
      ((b = false ∧ compO i vs t c x m (k + 1) acc e4 = .ok ys e2) ∨ ∃ y e5, b = true ∧ x e4 = .ok y e5 ∧ compO i vs t c x m (k + 1) (acc ++ [y]) e5 = .ok ys e2)) := by
  cases n with
  | zero => cases h
  | succ n =>
    unfold compO at h
    simp only [bd, stT] at h
    cases er : rd i e with
    | exn c' e' => rw [er] at h; cases h
    | bad => rw [er] at h; cases h
    | ok d0 e0 =>
      obtain ⟨q, rfl⟩ := rd_ok er
      rw [er] at h
      cases d0 with
      | lst xs =>
        simp only at h
        refine ⟨n, xs, rfl, q, ?_⟩
        cases ek : xs[k]? with
        | none =>
          rw [ek] at h
          cases h
          exact .inl ⟨rfl, rfl, rfl⟩
        | some d =>
          rw [ek] at h
          simp only [bd, stT] at h
          cases e1 : t d (wipeE e0 vs) with
          | none => rw [e1] at h; cases h
          | some e3 =>
            rw [e1] at h
            simp only at h
            cases e6 : c e3 with
            | exn c' e' => rw [e6] at h; cases h
            | bad => rw [e6] at h; cases h
            | ok b e4 =>
              rw [e6] at h
              simp only at h
              refine .inr ⟨d, e3, b, e4, rfl, e1, e6, ?_⟩
              cases b with
              | false => exact .inl ⟨rfl, by simpa using h⟩
              | true =>
                simp only [if_true, bd] at h
                cases e7 : x e4 with
                | exn c' e' => rw [e7] at h; cases h
                | bad => rw [e7] at h; cases h
                | ok y e5 => rw [e7] at h; exact .inr ⟨y, e5, rfl, rfl, h⟩
      | _ => cases h
theorem lcO_run (hG : ∀ v ∈ vs, C.G v = .dat) (hi : C.G i = .ol) (hiv : i ∉ vs) {σ : L2.St} {H : Hp} {Q : VK} (h : tF C .ol (lcO i vs t c x) σ H Q) : tLc (iList C.K (tVar i)) (tG (C.blk vs) t) (tT (C.blk vs) c) (tE (C.blk vs) x) vs σ H Q := by
  obtain ⟨ε, F, P, R, h⟩ := h
  unfold lcO at h
  cases ec : compO i vs t c x 1000000 0 [] ε with
  | exn k e2 => simp only [ec] at h; exact h.elim
  | bad => simp only [ec] at h; exact h.elim
  | ok ys e2 =>
  simp only [ec] at h
  obtain ⟨m0, xs0, _, q0, _⟩ := compO_cons ec
  obtain ⟨a, vs0, ds0, ed0, hs, hF, ha, l0, hilt⟩ := R.ol hi q0
  refine ⟨.ref a, hs, a, rfl, ⟨vs0, SqL.of ha⟩, fun D hD => ?_⟩
  let P' : Addr → Prop := fun a => P a ∨ a ∈ [D]
  have hP' : P' D := .inr (List.mem_singleton.mpr rfl)
  have gP : ∀ a, P' a → P a ∨ H a = none := fun a z => z.elim .inl fun z => .inr (by rw [List.mem_singleton.mp z]; exact hD)
  have R2 : RepE C.K C.G (upd H D (.lst [])) σ ε F P' := R.ext (same_upd hD) fun a z => z.elim .inl fun z => .inr (by
    rw [List.mem_singleton.mp z]
    exact ⟨hD, by rw [upd_same]; intro z; cases z⟩)
  have hsw : (L2.wipe σ vs)[i]? = some (some (.ref a)) := by rw [wipe_get hiv]; exact hs
  have inj : ∀ {H : Hp} {us ws : List V}, H a = some (.lst us) → SqL C.K H a ws → (∃ o its n, C.K.lookup a = some o ∧ o.data = .seq its n ∧ Vals ws its.toList) ∨ us = ws := by
    intro H us ws h1 h2
    rcases h2 with (h2 | ⟨o, h2⟩) | ⟨o, its, n, h2, _, _, h3, _, h4⟩
    · rw [h1] at h2; cases h2; exact .inr rfl
    · rw [h1] at h2; cases h2
    · exact .inl ⟨o, its, n, h2, h3, h4⟩
  refine ⟨fun k m H' => ∃ e F' acc us, RepE C.K C.G H' (L2.wipe σ vs) (wipeE e vs) F' P' ∧ Fr F H F' H' ∧ H' D = some (.lst us) ∧ RepL C.K (Own F' P') H' acc us ∧ us.length ≤ k ∧ k + m = 1000000 ∧ compO i vs t c x m k acc e = .ok ys e2,
    ⟨1000000, ε, F, [], [], R2.wipe hG, Fr.ext (same_upd hD), upd_same, rfl, Nat.le_refl _, rfl, ec⟩, ?_⟩
  rintro k m H2 ⟨e3, F2, acc, us, R3, y2, hU, hL, hu, hkm, hcp⟩
  obtain ⟨n, xs, rfl, q1, q2⟩ := compO_cons hcp
  obtain ⟨a', ws, ds, ed, hs', hF', ha', l', hi'⟩ := R3.ol hi (by rw [wipeE_get hiv]; exact q1)
  have : a' = a := by rw [hsw] at hs'; cases hs'; rfl
  subst this
  cases ed
  rcases q2 with ⟨q2, rfl, rfl⟩ | ⟨d, e4, b, e5, q2, q3, q4, q5⟩
  · refine .inl ⟨⟨ws, SqL.of ha', by rw [l'.length]; exact List.getElem?_eq_none_iff.mp q2⟩, ?_⟩
    exact h (.ref D) H2 F2 [D] (RepE.rest R R3 y2 hG gP) y2 (fun a ha => by rw [List.mem_singleton.mp ha]; exact hD) ⟨D, us, _, rfl, rfl, rfl, hU, hL⟩
  · obtain ⟨v0, hv0, rv0⟩ := l'.get q2
    refine .inr ⟨⟨ws, v0, SqL.of ha', hv0⟩, fun H' => ∃ e F' acc us, RepE C.K C.G H' (L2.wipe σ vs) (wipeE e vs) F' P' ∧ Fr F H F' H' ∧ H' D = some (.lst us) ∧ RepL C.K (Own F' P') H' acc us ∧ us.length ≤ k + 1 ∧ k + 1 + n = 1000000 ∧ compO i vs t c x n (k + 1) acc e = .ok ys e2,
      fun H' nx => ⟨n, Nat.lt_succ_self n, nx⟩, fun v H3 ⟨eH, hy⟩ => ?_⟩
    subst eH
    have ev : v = v0 := Option.some.inj ((hy ws (SqL.of ha')).symm.trans hv0)
    subst ev
    refine ⟨d, wipeE e3 vs, F2, P', R3, rv0, e4, q3, fun σ4 H4 F4 R4 y4 p4 => ?_⟩
    have nD : ∀ i, D ∉ F2 i := fun i z => R3.out i D z hP'
    have nD4 : ∀ i, D ∉ F4 i := fun i z => R4.out i D z hP'
    have hU4 : H4 D = some (.lst us) := y4.keep D _ hU nD
    have y04 : Fr F H F4 H4 := y2.trans y4
    have wq : L2.wipe σ4 vs = L2.wipe σ vs := by
      rw [wipe_ext (σ := L2.wipe σ vs) p4.1 fun i m => p4.2 i (by simp [Cc.blk, m]), wipe_wipe]
    refine ⟨wq, e4, F4, P', R4, ?_⟩
    rw [q4]
    intro H5 F5 R5 y5
    have y05 := y04.trans y5
    have y25 := y4.trans y5
    have hU5 : H5 D = some (.lst us) := y5.keep D _ hU4 nD4
    have nD5 : ∀ i, D ∉ F5 i := fun i z => R5.out i D z hP'
    rcases q5 with ⟨rfl, q5⟩ | ⟨y, e6, rfl, q6, q5⟩
    · refine iteF ⟨e5, F5, acc, us, ?_, y05, hU5, y25.repL hL, by omega, by omega, q5⟩
      have := RepE.wipe (vs := vs) R5 hG
      rwa [wq] at this
    · refine iteT ⟨e5, F5, P', R5, ?_⟩
      rw [q6]
      intro H6 F6 R6 y6 u ru
      have hU6 : H6 D = some (.lst us) := y6.keep D _ hU5 nD5
      refine ⟨us, hU6, Nat.lt_of_le_of_lt (show us.length ≤ 1000000 by omega) (by decide), e6, F6, acc ++ [y], us ++ [u], ?_, (y05.trans y6).mut hD, upd_same, ?_, by simp; omega, by omega, q5⟩
      · have := RepE.wipe (vs := vs) (RepE.mutP (o := .lst (us ++ [u])) R6 hP') hG
        rwa [wq] at this
      · exact RepL.append (RepL.move (keeps_upd (.inl hP')) (fun a z => .inl z) _ _ ((y25.trans y6).repL hL)) (RepL.one (Rep.move (keeps_upd (.inl hP')) (fun a z => .inl z) _ _ ru))
theorem rf_lcO (hX : X.K = C.K) (hc : X.calm = true) (hN : X.N.Nodup) (hi : PE X l (tVar i)) (hGi : C.G i = .ol) (hiv : i ∉ vs) (ok : BlkOk X.N X.env.scope scope own) (hv : own.map (·.2) = vs) (hG : ∀ v ∈ vs, C.G v = .dat)
    (hg : ∀ (s : Shared) (H : Hp) (L : Addr) (cl : List (Str × Addr)) (fp : List Addr), PG (X.blk s H scope (compEnvC scope cl L X.env) fp) tg (tG (C.blk vs) t))
    (ht : ∀ (s : Shared) (H : Hp) (L : Addr) (cl : List (Str × Addr)) (fp : List Addr), PTs (X.blk s H scope (compEnvC scope cl L X.env) fp) ifs (tT (C.blk vs) c))
    (he : ∀ (s : Shared) (H : Hp) (L : Addr) (cl : List (Str × Addr)) (fp : List Addr), PE (X.blk s H scope (compEnvC scope cl L X.env) fp) elt (tE (C.blk vs) x))
    (hs : ∀ x, foldedSetIterable l X.env x = pure x := by intro _; rfl) : PE X (.ListComp elt [⟨tg, l, ifs, 0⟩] scope pos) (tF C .ol (lcO i vs t c x)) :=
  PE.mono (pe_lc hc hN (pi_list hi) ok hg ht he hs) fun σ H Q h => by rw [hv, hX]; exact lcO_run hG hGi hiv h
end
/-! ### calls that read what slots own and answer by a scalar -/
def reads (G : Nat → Md) : List Opd → List Md → Bool
  | [], [] => true
  | .d _ :: as, m :: ms => decide (m = .dat) && reads G as ms
  | .o i :: as, m :: ms => decide (m = .dat) && decide (G i ≠ .oll) && reads G as ms
  | _, _ => false
section
variable {C : Cc} {σ : L2.St} {H : Hp} {F : Fp} {P : Addr → Prop} {ε : Sl} {as : List Opd} {pm : List Md} {ds : List D} {vs : List V}
/-- what a slot holds, as data: what the slot owns is not counted -/
theorem RepM.lend {K : PySem.W.Frag} {O O' : Addr → Prop} {md : Md} {d : D} {v : V} {fp : List Addr} (hmd : md ≠ .oll) (r : RepM K O H md d v fp) (n : ∀ a ∈ fp, ¬ O' a) (g : ∀ a, O' a → O a) : Rep K O' H d v := by
  have G : Grows O O' H := fun a z => .inl (g a z)
  cases md with
  | dat => exact Rep.move Keeps.rfl' G _ _ r.2
  | ol =>
    obtain ⟨a, vs, ds, rfl, rfl, rfl, e, l⟩ := r
    exact ⟨a, vs, rfl, .inl ⟨n a (List.mem_singleton.mpr rfl), .inl e⟩, RepL.move Keeps.rfl' G _ _ l⟩
  | ox =>
    rcases r with ⟨a, vs, ds, rfl, rfl, rfl, e, l⟩ | ⟨_, _, h⟩
    · exact ⟨a, vs, rfl, .inl ⟨n a (List.mem_singleton.mpr rfl), .inl e⟩, RepL.move Keeps.rfl' G _ _ l⟩
    · exact Rep.move Keeps.rfl' G _ _ h
  | od =>
    obtain ⟨a, vs, ds, rfl, rfl, rfl, e, l⟩ := r
    exact ⟨a, vs, rfl, n a (List.mem_singleton.mpr rfl), e, RepD.move Keeps.rfl' G _ _ l⟩
  | oh =>
    obtain ⟨a, vs, ds, rfl, rfl, rfl, e, l⟩ := r
    exact ⟨a, vs, rfl, n a (List.mem_singleton.mpr rfl), e, RepH.move Keeps.rfl' G _ _ l⟩
  | oll => exact (hmd rfl).elim
theorem reads_len : ∀ {G : Nat → Md} {as : List Opd} {pm : List Md}, reads G as pm = true → as.length = pm.length ∧ (∀ k, gm pm k = .dat) ∧ ∀ i ∈ slots as, G i ≠ .oll
  | _, [], [], _ => ⟨rfl, fun k => by simp [gm], fun i h => by cases h⟩
  | G, .d _ :: as, m :: ms, h => by
    simp only [reads, Bool.and_eq_true, decide_eq_true_eq] at h
    obtain ⟨a, b, c⟩ := reads_len h.2
    refine ⟨by simp [a], fun k => ?_, c⟩
    cases k with
    | zero => simp [gm, h.1]
    | succ k => simpa [gm] using b k
  | G, .o i :: as, m :: ms, h => by
    simp only [reads, Bool.and_eq_true, decide_eq_true_eq] at h
    obtain ⟨a, b, c⟩ := reads_len h.2
    refine ⟨by simp [a], fun k => ?_, fun j hj => ?_⟩
    · cases k with
      | zero => simp [gm, h.1.1]
      | succ k => simpa [gm] using b k
    · simp only [slots, List.mem_cons] at hj
      rcases hj with hj | hj
      · rw [hj]; exact h.1.2
      · exact c j hj
  | _, [], _ :: _, h => by simp [reads] at h
  | _, .d _ :: _, [], h => by simp [reads] at h
  | _, .o _ :: _, [], h => by simp [reads] at h
/-- what is owned beside the lists that are lent -/
def Pr (as : List Opd) (F : Fp) (P : Addr → Prop) : Addr → Prop := fun a => P a ∨ ∃ j, j ∉ slots as ∧ a ∈ F j
theorem lent (R : RepE C.K C.G H σ ε F P) (A : Ar C.K σ ε H (Own F P) as ds vs) (hf : reads C.G as pm = true) : RepE C.K (gm pm) H (vs.map some) (ds.map some) (fun _ => []) (Pr as F P) := by
  obtain ⟨h1, h2, h3⟩ := reads_len hf
  have dn : ∀ a, Own (fun _ => []) (Pr as F P) a → Own F P a := by
    rintro a ((z | ⟨j, _, z⟩) | ⟨_, z⟩)
    · exact .inl z
    · exact .inr ⟨j, z⟩
    · cases z
  have g : Grows (Own F P) (Own (fun _ => []) (Pr as F P)) H := fun a z => .inl (dn a z)
  refine ⟨by simp [A.len], fun k d e => ?_, fun k no => rfl, fun k k' a h => (by cases h), fun k a h => (by cases h), fun a z => R.dom a (dn a z)⟩
  have e' : ds[k]? = some d := by
    rw [List.getElem?_map] at e
    cases q : ds[k]? with
    | none => rw [q] at e; cases e
    | some x => rw [q] at e; simp at e; rw [e]
  obtain ⟨v, hv, q⟩ := A.get e'
  refine ⟨v, by rw [List.getElem?_map, hv]; rfl, ?_⟩
  rw [h2 k]
  refine ⟨rfl, ?_⟩
  rcases q with ⟨n, r⟩ | ⟨i, s, hs, he⟩
  · exact Rep.move Keeps.rfl' g _ _ r
  · have gi := h3 i (sl_mem s)
    obtain ⟨v', hv', rr⟩ := R.val i d he
    rw [hs] at hv'
    cases hv'
    refine rr.lend gi (fun a ha z => ?_) dn
    rcases z with (z | ⟨j, m, z⟩) | ⟨_, z⟩
    · exact R.out i a ha z
    · have := R.sep j i a z ha
      subst this
      exact m (sl_mem s)
    · cases z
theorem callR_run {f : Fn} {cl : Nat → Addr} (hf : reads C.G as pm = true) {E : XK} (hE : ∀ c H', C.W c σ H' → E (.ref (cl c)) none H') {Q : VK} (h : tE C (callR f as) σ H Q) : tAs C as σ H fun vs H1 => spF C.K pm .dat cl f vs H1 Q E := by
  obtain ⟨ε, F, P, R, h⟩ := h
  refine tAs.imp _ (gopds Okk.stp R h) fun vs H1 ⟨ds, ε1, F1, R1, y1, A, h1⟩ => ?_
  refine ⟨ds, fun _ => [], Pr as F1 P, lent R1 A hf, A.len.2.trans (reads_len hf).1, ?_⟩
  cases e : f ds with
  | bad => simp only [e] at h1; exact h1.elim
  | exn c =>
    simp only [e] at h1
    exact ⟨fun _ => rfl, fun H' x => hE c H' (h1 H' F1 (R1.grow x) (Fr.ext x))⟩
  | ok d ds' =>
    simp only [e] at h1
    by_cases hs : scal d = true
    case neg => rw [if_neg hs] at h1; exact h1.elim
    rw [if_pos hs] at h1
    intro v H' F' fp R' y nf r
    have x : ∀ a o, H1 a = some o → H' a = some o := fun a o q => y.keep a o q fun i z => by cases z
    refine h1 H' F1 (R1.grow x) (Fr.ext x) v ?_
    have r2 := r.2
    cases d with
    | non => exact r2
    | bl b => exact r2
    | int b => exact r2
    | str b => exact r2
    | _ => cases hs
end
section
variable {X : Cx} {C : Cc} {e : Expr} {es : List Expr} {x : Str} {p pos : Pos} {as : List Opd} {k : Nat} {f : Addr} {fd : FuncData} {ps : List Str} {pm : List Md} {cl : Nat → Addr} {fn : Fn} {E : XK}
theorem re_callR (F : FnG X.prog X.w X.K X.mg X.base (CXA X.prog X.w) k f fd ps (spF C.K pm .dat cl fn)) (hr : RoomG k X.A) (hg : Gl X x) (hm : X.mg x = some (.ref f)) (hk : PySem.W.keepIn X.K (.ref f) = true) (hb : Binds X.K fd ps [])
    (hx : Passes (CXA X.prog X.w) X E) (hE : ∀ c σ H', C.W c σ H' → E (.ref (cl c)) none H') (ha : PA X (e :: es) (tAs C as)) (hf : reads C.G as pm = true) (hdb : (x == ("__debug__" : Str)) = false := by decide)
    (he : starEach (e :: es) X.env = (false, eval e X.env) :: starEach es X.env := by rfl) (hpl : (backTo pos (starEach es X.env)).any (·.1) = false := by rfl) : PE X (.Call (.Name x p) (e :: es) [] pos) (tE C (callR fn as)) :=
  PE.mono (pe_callG F hr hg hm hk hb hx ha hdb he hpl) fun σ H Q h => callR_run (E := E) hf (fun c H' => hE c σ H') h
end
end Lk

end
section
set_option maxRecDepth 100000
set_option maxHeartbeats 4000000
/-! Lks: set(xs) of a list of ints. -/
namespace Lk
open PySem PySem.Spec PyProof.Rows L2 Cr
section
variable {P : Program} {w : World} {A : Around} {E : Value → Shared → Prop} {s : Shared}
/-- the set that has just been made -/
def mtO (w : World) : Obj := { cls := .type "set", dict := none, data := .set #[] 0 (.fresh 0 0 (!w.params.followText "set-order")) }
/-- its heap -/
def mtH (w : World) (h : Heap) : Heap := h.push (mtO w)
theorem mtH_at (w : World) (h : Heap) : (mtH w h).get? h.objs.size = some (mtO w) := Heap.get?_push_size _ rfl
theorem mtH_size (w : World) (h : Heap) : (mtH w h).objs.size = h.objs.size + 1 := Heap.size_push ..
/-- what set.__init__ leaves -/
def MadeI (w : World) (s : Shared) (ns : List Int) (v : Value) (z : Shared) : Prop :=
  v = .none ∧ ∃ g k n, z = { s with heap := g, toks := k } ∧ SetR w g s.heap.objs.size (fun j => decide (j ∈ ns)) n ∧ n ≤ ns.length ∧ ∀ b o, s.heap.get? b = some o → g.get? b = some o
theorem ints_at {its : Array Value} {ns : List Int} (hi : IntsAre its.toList ns) (hz : its.size = ns.length) {i : Nat} {v : Value} (hv : its[i]? = some v) : ∃ k t, ns[i]? = some k ∧ v = .int k t := by
  have hlt : i < ns.length := hz ▸ (Array.getElem?_eq_some_iff.mp hv).1
  obtain ⟨t, e⟩ := PyProof.Rows.IntsAre.int_at hi i v (Array.getElem?_toList ▸ hv)
  exact ⟨ns[i], t, List.getElem?_eq_getElem hlt, by rw [e, List.getD_eq_getElem?_getD, List.getElem?_eq_getElem hlt] <;> rfl⟩
theorem set_lstI {q : Addr} {its : Array Value} (ns : List Int) {Q : Value → Shared → Prop} (hd : A.handled = none) (pl : s.heap.IsList q its) (hi : IntsAre its.toList ns) (hb : ns.length + 1 < scanBound)
    (fin : ∀ (g : Heap) (k n : Nat), SetR w g s.heap.objs.size (fun j => decide (j ∈ ns)) n → n ≤ ns.length → (∀ b o, s.heap.get? b = some o → g.get? b = some o) → Q (.ref s.heap.objs.size) { s with heap := g, toks := k }) :
    wpAny (model P w) A (call (.type "set") [.ref q]) Q E s := by
  have hz : its.size = ns.length := Array.length_toList (xs := its) ▸ IntsAre.length hi
  obtain ⟨m1, m2, mro⟩ := F.called_set.mro
  have made1 := F.called_set.made
  have sub1 := F.called_set.sub
  have nt1 := F.called_set.notType
  have cc1 := F.called_set.canCreate
  have tc1 := F.typeCall_set_1 (.ref q)
  refine wpAny_call (codeAny_of_tree (show wpAny _ _ (callAny (.type "set") _) _ _ _ from wpAny_pure ⟨Code.quiet_builtin _ (by decide +kernel), codeAny_builtin F.entry_type_call ?_⟩))
  rw [Around.under_plain (weight_type_call_type "set" [.ref q] []) rfl]
  repeat (any_goals (first | assumption | wp_step))
  refine codeAny_mono (code_set_led1 (.ref q) (E := E) (Q₁ := fun o z => o = .ref s.heap.objs.size ∧ z = { s with heap := mtH w s.heap }) ⟨rfl, rfl⟩) fun r z hr => ?_
  match r, hr with
  | .error _, hr => exact hr
  | .ok (.ret o), hr =>
    obtain ⟨rfl, rfl⟩ := hr
    have me := mtH_at w s.heap
    unfold mtO at me
    have ty : Shared.TypeIs { s with heap := mtH w s.heap } (.ref s.heap.objs.size) "set" := ⟨_, mtH_at w s.heap, rfl⟩
    have il := F.called_set.init.lookup
    have ib := F.called_set.init.bind (.ref s.heap.objs.size)
    repeat (any_goals (first | assumption | wp_step))
    refine codeAny_mono (codeAny_call_builtin (R := wants (MadeI w s ns) E) F.called_set.init.plain F.entry_set_init (check_set_init_1 ty ?_)) fun r2 z2 hr2 => ?_
    · obtain ⟨⟨oc, od, ox, os⟩, hq, hcl, nl, hdl⟩ := pl
      simp only at hcl hdl
      subst hcl
      subst hdl
      have hq' : (mtH w s.heap).get? q = some { cls := .type "list", dict := od, data := .seq its nl, slots := os } := Heap.get?_push_of_some _ hq
      have s1 := F.sub_list_set
      have s2 := F.sub_list_frozenset
      have s3 : (Value.type "list" == Value.type "dict") = false := by decide
      have pl' : (mtH w s.heap).IsList q its := ⟨_, hq', rfl, nl, rfl⟩
      unfold Builtin.«set.__init__»
      unfold noKeywords
      unfold Builtin.Frozenset.updateFrom
      generalize hIt : pyIter = IT
      wp_walk
      subst hIt
      refine wpAny_pyIter_list (s := { s with heap := mtH w s.heap }) pl' ?_
      refine wpAny_bind (wpAny_runValue ?_)
      have hqs : q < s.heap.objs.size := Heap.lt_size hq
      have n1 : q ≠ (mtH w s.heap).objs.size := by rw [mtH_size]; exact Nat.ne_of_lt (Nat.lt_succ_of_lt hqs)
      have n2 : s.heap.objs.size ∉ [(mtH w s.heap).objs.size, q] := by
        rw [mtH_size]
        intro h
        rcases List.mem_cons.mp h with h | h
        · exact Nat.ne_of_lt (Nat.lt_succ_self _) h
        · exact Nat.ne_of_gt hqs (List.mem_singleton.mp h)
      refine set_update_ints ((Walks.list (by simp [hd]) _ q n1 its).toS) s.heap.objs.size n2 ns hz hb (fun i v hv => ints_at hi hz hv) (its.size - 0) 0 _ rfl (Nat.zero_le _)
        ⟨⟨_, Heap.get?_push_size _ rfl, rfl, rfl⟩, (pl'.push _)⟩ ⟨0, Nat.le_refl 0, setR_new_at (Heap.get?_push_of_some _ (mtH_at w s.heap))⟩ ?_
      intro ⟨g, g2, d', tk', os'⟩ n' hm hn' hS'
      have eg : g2 = s.gens := hm.gens
      have ed : d' = s.drawn := hm.drawn
      have eo : os' = s.os := hm.os
      subst eg ed eo
      show wpAny _ _ _ _ _ _
      refine wpAny_pure (show wpAny _ _ (ret Value.none) _ _ _ from wpAny_pure ⟨rfl, g, tk', n', rfl, hS', by rw [← hz]; exact hn', fun b o e => ?_⟩)
      have b0 : b < s.heap.objs.size := Heap.lt_size e
      refine hm.heap b o (fun h => ?_) (Heap.get?_push_of_some _ (Heap.get?_push_of_some _ e))
      rcases List.mem_cons.mp h with h | h
      · exact Nat.ne_of_lt b0 h
      · have h := List.mem_singleton.mp h
        rw [mtH_size] at h
        exact Nat.ne_of_lt (Nat.lt_succ_of_lt b0) h
    · match r2, hr2 with
      | .error _, hr2 => exact hr2
      | .ok (.ret v), hr2 =>
        obtain ⟨rfl, g, k, n, rfl, hS', hn', hk'⟩ := hr2
        repeat (any_goals (first | assumption | wp_step))
        exact fin _ _ _ hS' hn' hk'
end
/-- set(xs), a list of few ints -/
def rSetI (K : PySem.W.Frag) (w : World) : List V → Hp → VK → Prop := fun xs H Q => ∃ (a : Addr) (ns : List Int), xs = [.ref a] ∧ SqL K H a (ns.map V.int) ∧ ns.length ≤ 50 ∧ ∀ (p : Addr) (n : Nat), H p = none → n ≤ ns.length → Q (.ref p) (upd H p (SetO w p (fun j => decide (j ∈ ns)) n))
theorem cr_setI {X : Cx} (hc : X.calm = true) : CallR X (.type "set") (rSetI X.K X.w) := by
  intro pins s σ H xs us Q I r ⟨a, ns, e, hl, hf, q⟩
  subst e
  rw [Vals.ref1 r]
  obtain ⟨its, rv, pl, _⟩ := I.list hl
  have fr : H s.heap.objs.size = none := I.hok.fresh (Nat.le_refl _)
  refine set_lstI ns (I.ok.hd hc) pl.isList (ints_of_vals rv) (by unfold scanBound; omega) fun g k n R hn hk => ?_
  exact ⟨.ref s.heap.objs.size, upd H s.heap.objs.size (SetO X.w s.heap.objs.size (fun j => decide (j ∈ ns)) n), I.laid (t' := k) hk (Nat.le_refl _) (setO_new R), rfl, q _ n fr hn⟩
end Lk

end
section
set_option maxRecDepth 100000
set_option maxHeartbeats 4000000
/-! Lk12: sorts. -/
namespace Lk
open PySem PySem.Spec PyProof.Rows L2 Cr
theorem ints_back {K : PySem.W.Frag} {O : Addr → Prop} {H : Hp} : ∀ ns : List Int, RepL K O H (ns.map D.int) (ns.map V.int)
  | [] => rfl
  | n :: ns => ⟨.int n, ns.map V.int, rfl, rfl, ints_back ns⟩
section
variable {X : Cx} {C : Cc} {e : Expr} {p q1 q2 pos : Pos} {o : Opd}
theorem rf_sortset (hX : X.K = C.K) (hc : X.calm = true) (hg1 : Gl X "sorted") (hm1 : X.mg "sorted" = none) (hg2 : Gl X "set") (hm2 : X.mg "set" = none) (h : PE X e (tO C o))
    (he : starEach (e :: []) X.env = (false, eval e X.env) :: starEach [] X.env := by rfl)
    (he2 : starEach (.Call (.Name "set" p) [e] [] q1 :: []) X.env = (false, eval (.Call (.Name "set" p) [e] [] q1) X.env) :: starEach [] X.env := by rfl) :
    PE X (.Call (.Name "sorted" q2) [.Call (.Name "set" p) [e] [] q1] [] pos) (tF C .ol (callB bSetI [o])) := by
  refine PE.mono (pe_callB (cr_sortedSet hc) hg1 hm1 (by decide +kernel) (pa_cons (pe_callTy (cr_setI hc) hg2 hm2 (by decide +kernel) (pa_cons h pa_nil he) (by decide) (by decide) he (by rfl)) pa_nil he2) (by decide) (by decide) he2 (by rfl)) fun σ H Q h => ?_
  obtain ⟨ε, F, P, R, h⟩ := h
  have a := gopds OkF.stp R h
  show (tAs C [o]) σ H fun vs H1 => rSetI X.K X.w vs H1 _
  refine tAs.imp _ a fun vs H1 ⟨ds, ε1, F1, R1, y1, A, h1⟩ => ?_
  obtain ⟨d, e1, q⟩ := OkF.opt h1
  have w := A.wl R1
  unfold bSetI at e1
  split at e1
  · rename_i xs
    split at e1
    · rename_i ns hi
      split at e1
      · rename_i h50
        cases e1
        obtain ⟨v, rfl, a, us, rfl, t, l⟩ := wl1 w
        rw [intsD_rep hi l] at t
        rw [hX]
        refine ⟨a, ns, rfl, t, h50, fun p n hp hn => ?_⟩
        refine ⟨p, _, n, rfl, upd_same, by omega, fun ns' p2 hw hm hl hp2 => ?_⟩
        have e2 : ns' = usort ns := pw_lt_eq (fun z => by rw [hm z, usort_mem]; simp) hw (usort_pw ns)
        subst e2
        have ext := same_upd (o := SetO X.w p (fun j => decide (j ∈ ns)) n) hp
        exact finF (R1.grow ext) (OkF.stp.step _ _ _ _ _ q (Fr.ext ext)) rfl (ints_back _) hp2
      · cases e1
    · cases e1
  · cases e1
end
end Lk

end
section
set_option maxRecDepth 100000
set_option maxHeartbeats 4000000
/-! Lk13: the head's facts, with Bools of one's own. -/
namespace Lk
open PySem PySem.Spec PyProof.Rows L2 Cr
/-! the addresses that are reached in n steps, each once: a number's bits tell which are seen -/
def frN {α : Type} (n : Nat) (k : Nat → α) : α := match n with
  | 0 => k 0
  | m + 1 => k (m + 1)
def seeB : List Addr → Nat → List Addr → (Nat → List Addr → List Addr) → List Addr
  | [], v, new, k => k v new
  | a :: r, v, new, k => match Nat.beq (Nat.land (Nat.shiftRight v a) 1) 1 with
    | true => seeB r v new k
    | false => frN (Nat.lor v (Nat.shiftLeft 1 a)) fun v' => seeB r v' (a :: new) k
def refB (g : Addr → Option Obj) (a : Addr) : List Addr := match g a with
  | some o => He.refsD o
  | none => []
def asB (g : Addr → Option Obj) : Nat → Nat → List Addr → List Addr
  | 0, _, front => front
  | n + 1, v, front => front ++ seeB (front.flatMap (refB g)) v [] fun v' new => asB g n v' new.reverse
def asZ (g : Addr → Option Obj) (n : Nat) : List Addr := frN (Nat.shiftLeft 1 mainGlobals) fun v => asB g n v [mainGlobals]
def obsZ (n : Nat) (fa : List He.Fa) (fn : List He.DefD) (ex : PySem.W.Frag → Bool) (g : Addr → Option Obj) : He.AlD × Bool := (He.obsD fa fn (He.frG g (asZ g n)), ex (He.frG g (asZ g n)))
def hookZ (n : Nat) (fa : List He.Fa) (fn : List He.DefD) (ex : PySem.W.Frag → Bool) : PySem.W.Hook where
  α := He.AlD × Bool
  obs := fun s => obsZ n fa fn ex s.heap.get?
  val := fun _ => (He.valD fn, true)
  says := fun _ h => ∃ K : PySem.W.Frag, K.In h ∧ He.SaysD fa fn K ∧ ex K = true
  of := fun _ _ e => ⟨_, He.frG_in, congrArg Prod.fst e, congrArg Prod.snd e⟩
  keeps := fun _ _ _ ⟨K, hK, c⟩ k => ⟨K, PySem.W.Frag.In.keeps hK k, c⟩
theorem obsZ_eq {n : Nat} {fa : List He.Fa} {fn : List He.DefD} {ex : PySem.W.Frag → Bool} {g : Addr → Option Obj} {s : Shared} (h : ∀ a, g a = s.heap.get? a) : obsZ n fa fn ex g = (hookZ n fa fn ex).obs s := by
  rw [show g = s.heap.get? from funext h] <;> rfl
theorem exAt {l : List Bool} (h : l.all id = true) (i : Nat) {b : Bool} (e : l[i]? = some b) : b = true := List.all_eq_true.mp h b (List.mem_of_getElem? e)
/-- a written tuple of scalars -/
theorem tup_rep {K : PySem.W.Frag} {a : Addr} {ds : List D} {vs : List V} (h : ∀ H : Hp, SqT K H a vs) (l : ∀ O H, RepL K O H ds vs) : ∀ O H, Rep K O H (.tup ds) (.ref a) := fun O H => by
  refine ⟨a, vs, rfl, ?_, l O H⟩
  rcases h (fun _ => none) with (q | ⟨o, q⟩) | q
  · cases q
  · cases q
  · exact .inr q
end Lk
namespace Lk
open PySem PySem.Spec PyProof.Rows L2 Cr
/-- a def that, wished to raise nothing, raises nothing -/
theorem FnG.calm {P : Program} {w : World} {K : PySem.W.Frag} {mg : Str → Option Value} {base : Heap} {k : Nat} {f : Addr} {fd : FuncData} {ps : List Str} {sp : Sp} (F : FnG P w K mg base (CXA P w) k f fd ps sp) :
    FnG P w K mg base CX0 k f fd ps (fun vs H Q _ => sp vs H Q E0) := by
  refine ⟨fun vs H Q E h => F.len vs H Q E0 h, fun A outer s H us vs Q E hr e0 hb r h => ?_⟩
  refine codeAny_mono (F.run A outer s H us vs Q E0 hr e0 hb r h) fun x s' hx => ?_
  cases x with
  | error e =>
    have hx' : CXA P w outer H s E0 e s' := hx
    obtain ⟨_, _, _, _, _, _, _, _, _, _, _, _, _, _, _, _, _, _, z⟩ := hx'
    exact z.elim
  | ok fl =>
    cases fl with
    | ret u => exact hx
    | next => exact hx
    | brk => exact hx
    | cont => exact hx
/-- the law's own def: the script in, True out -/
theorem sp_law {K : PySem.W.Frag} {cl : Nat → Addr} {f : Fn} {a : Addr} {ns : List Int} {H : Hp} {ds : List D} (hO : Only H) (hS : SqL K H a (ns.map V.int)) (e : f [.lst (ns.map .int)] = .ok (.bl true) ds) :
    spF K [.dat] .dat cl f [.ref a] H (fun v _ => v = .bl true) E0 := by
  refine ⟨[.lst (ns.map .int)], fun _ => [], fun _ => False, ⟨rfl, fun i d q => ?_, fun _ _ => rfl, fun i j b h => (by cases h), fun i b h => (by cases h), fun b z => ?_⟩, rfl, ?_⟩
  · cases i with
    | zero =>
      cases q
      refine ⟨_, rfl, rfl, a, ns.map V.int, rfl, ?_, ints_back ns⟩
      rcases hS with h | h
      · exact .inl ⟨fun z => z.elim (fun z => z) (fun ⟨_, z⟩ => by cases z), h⟩
      · exact .inr h
    | succ i => simp at q
  · rcases z with z | ⟨_, z⟩
    · exact z.elim
    · cases z
  · rw [e]
    exact fun v H' F' fp R y n r => r.2
end Lk

end
section
set_option maxRecDepth 100000
set_option maxHeartbeats 4000000
/-! Lk14: exceptions: raise, try, the def that tells a caught exception's class. -/
namespace Lk
open PySem PySem.Spec PyProof.Rows L2 Cr
/-! ### calls whose exceptions are wished for at the slots -/
section
variable {X : Cx} {C : Cc} {e : Expr} {es : List Expr} {x : Str} {p pos : Pos} {as : List Opd} {k : Nat} {f : Addr} {fd : FuncData} {ps : List Str} {pm : List Md} {rm : Md} {cl : Nat → Addr} {fn : Fn} {W : WX}
theorem rf_callS (F : FnG X.prog X.w X.K X.mg X.base (CXA X.prog X.w) k f fd ps (spF C.K pm rm cl fn)) (hr : RoomG k X.A) (hg : Gl X x) (hm : X.mg x = some (.ref f)) (hk : PySem.W.keepIn X.K (.ref f) = true) (hb : Binds X.K fd ps [])
    (tk : TkA X W) (hE : ∀ c σ H', C.W c σ H' → W (.ref (cl c)) none σ H') (ha : PA X (e :: es) (tAs C as)) (hf : fits C.G as pm = true) (hn : (slots as).Nodup) (hdb : (x == ("__debug__" : Str)) = false := by decide)
    (he : starEach (e :: es) X.env = (false, eval e X.env) :: starEach es X.env := by rfl) (hpl : (backTo pos (starEach es X.env)).any (·.1) = false := by rfl) : PE X (.Call (.Name x p) (e :: es) [] pos) (tF C rm (callF fn as)) :=
  PE.mono (pe_callGS (E := fun σ c d H => W c d σ H) F hr hg hm hk hb (fun σ => Lk.passAt tk σ) ha hdb he hpl) fun σ H Q h => tAs.imp _ (callF_run (E := fun c d H => W c d σ H) hf hn (fun c H' => hE c σ H') h) fun vs H1 q => q
theorem re_callS (F : FnG X.prog X.w X.K X.mg X.base (CXA X.prog X.w) k f fd ps (spF C.K pm .dat cl fn)) (hr : RoomG k X.A) (hg : Gl X x) (hm : X.mg x = some (.ref f)) (hk : PySem.W.keepIn X.K (.ref f) = true) (hb : Binds X.K fd ps [])
    (tk : TkA X W) (hE : ∀ c σ H', C.W c σ H' → W (.ref (cl c)) none σ H') (ha : PA X (e :: es) (tAs C as)) (hf : fits C.G as pm = true) (hn : (slots as).Nodup) (hdb : (x == ("__debug__" : Str)) = false := by decide)
    (he : starEach (e :: es) X.env = (false, eval e X.env) :: starEach es X.env := by rfl) (hpl : (backTo pos (starEach es X.env)).any (·.1) = false := by rfl) : PE X (.Call (.Name x p) (e :: es) [] pos) (tE C (callF fn as)) :=
  re_fe (rf_callS F hr hg hm hk hb tk hE ha hf hn hdb he hpl)
/-! ### raise -/
theorem rs_raise {c : Nat} {p0 : Pos} (hX : X.K = C.K) (hc : X.calm = true) (tk : TkA X W) (hE : ∀ c σ H', C.W c σ H' → W (.ref (cl c)) none σ H') (gC : X.mg x = some (.ref (cl c)))
    (hq : PySem.W.excIn C.K (cl c) He.veBase "ValueError.__new__" = true ∧ PySem.W.keepIn C.K (.ref (cl c)) = true ∧ PySem.W.subIn C.K (.ref (cl c)) (.type "BaseException") = some true ∧ PySem.W.typeIn C.K (.ref (cl c)) = some (.type "type")) (hg : Gl X x)
    (hdb : (x == ("__debug__" : Str)) = false := by decide) : PS X (.Raise (some (.Call (.Name x p) [] [] pos)) none p0) (tS C (raise c)) := by
  obtain ⟨q1, q2, q3, q4⟩ := hq
  rw [← hX] at q1 q2 q3 q4
  exact PS.mono (ps_raiseA hc tk q1 gC q2 (raises_own q3 q4) hg hdb) fun D σ H ⟨ε, F, P, R, h⟩ t ht => hE c σ _ (h σ _ F (R.grow (same_upd ht)) (Fr.ext (same_upd ht)))
end
/-! ### a def that is called with the exception that is handled -/
/-- its promise may speak of the exception (its place, its object) -/
structure FnE (P : Program) (w : World) (K : PySem.W.Frag) (mg : Str → Option Value) (base : Heap) (CX : CXT) (k : Nat) (f : Addr) (fd : FuncData) (ps : List Str) (sp : Addr × Obj → Sp) : Prop where
  len : ∀ p vs H Q E, sp p vs H Q E → vs.length = ps.length
  run : ∀ (A : Around) (outer : List Env) (s : Shared) (H : Hp) (us : List Value) (vs : List V) (Q : VK) (E : XK) (p : Addr × Obj), L2H.RoomH k A → L2H.PinOk outer H s p → Env0 P w K mg base A outer s H → BindsTo s fd ⟨us, []⟩ (ps.zip us) → Vals vs us → sp p vs H Q E →
    codeAny (model P w) A (.call (.ref f) ⟨us, []⟩) (CR CX outer P w H s Q E) s
section
variable {P : Program} {w : World} {K : PySem.W.Frag} {mg : Str → Option Value} {base : Heap} {k : Nat} {f : Addr} {fd : FuncData} {CX : CXT} {x qual : Str} {params : Arguments} {body : List Stmt} {scope : Scope} {N ps : List Str} {sp : Addr × Obj → Sp}
theorem FunD.okE (Fd : FunD K x qual params body scope [] [] f fd) (Sc : FnScope N ps scope) (len : ∀ p vs H Q E, sp p vs H Q E → vs.length = ps.length)
    (hbody : ∀ (cdv : Value) (A : Around) (outer : List Env) (s : Shared) (H : Hp) (vs : List V) (Q : VK) (E : XK) (p : Addr × Obj), L2H.RoomH k (A.deeper (envOfC qual scope s.heap.objs.size f cdv)) → sp p vs H Q E →
      ∃ t, PSs (L2H.cxH CX P w K mg base N qual scope f cdv A outer s H E p) body t ∧ t { nx := fun _ H' => Q .non H', rt := Q } (L2.start N vs) H) : FnE P w K mg base CX (k + 1) f fd ps sp := by
  obtain ⟨oc, od, dV, kV, doc, pm, an, cdv, ct, osl, rfl, lk, hcd, _, _⟩ := Fd.ex
  refine ⟨len, fun A outer s H us vs Q E p hr hpin e0 hb r hsp => ?_⟩
  have kin : K.In s.heap := e0.mod.kin.keeps fun b o e => (e0.bs b o e).1
  have par : ∀ y ∈ ps.zip us, scope.names.lookup y.1 = some .local ∨ (scope.names.lookup y.1 = some .cell ∧ ((cellsFrom (s.heap.objs.size + 1) scope.names []).lookup y.1).isSome = true) := fun y hy =>
    (Sc.par y.1 (List.of_mem_zip hy).1).imp id fun q => ⟨q, PySem.W.cellsFrom_some _ _ _ (.inl q)⟩
  refine codeAny_call_function hr.depth (kin _ _ lk) rfl Sc.co Sc.gen rfl (PySem.W.codeRec_of kin hcd) (hb _ _ _ _ (wpAny_newFunctionEnv_cells Sc.kind par fun env he s1 ic => ?_))
  subst he
  refine ⟨(e0.mod.nolimit.keeps fun b o e => (e0.bs b o e).1).keeps ic.toInCall.keep, codeAny_func ?_⟩
  obtain ⟨t, ht, hq⟩ := hbody cdv A outer s H vs Q E p (hr.deeper _) hsp
  have J := L2H.inv_startH (CX := CX) (qual := qual) (f := f) (cd := cdv) (E := E) Sc hpin e0 (len _ _ _ _ _ hsp) r ic
  refine wpAny_mono (ht.run [] s1 _ H _ J hq) (fun fl z hz => ?_) fun _ _ hz => hz
  match fl, hz with
  | .ret u, ⟨v, σ', H', J', rv, q⟩ => exact ⟨v, H', J'.os, J'.bare, J'.base, J'.hok, rv, q⟩
  | .next, ⟨σ', H', J', q⟩ => exact ⟨.non, H', J'.os, J'.bare, J'.base, J'.hok, rfl, q⟩
  | .brk, ⟨_, _, _, q⟩ => exact False.elim q
  | .cont, ⟨_, _, _, q⟩ => exact False.elim q
end
theorem passL0 {X : Cx} : Passes (CXA X.prog X.w) X E0 := fun _ _ _ _ _ _ _ h => by
  obtain ⟨_, _, _, _, _, _, _, _, _, _, _, _, _, _, _, _, _, _, z⟩ := h
  exact z.elim
section
variable {X : Cx} {k : Nat} {f : Addr} {fd : FuncData} {ps : List Str} {sp : Addr × Obj → Sp} {x : Str} {q pos : Pos} {e : Expr} {es : List Expr} {t : TA} {p : Addr × Obj}
/-- its call, where the exception is kept apart -/
theorem pe_callE (F : FnE X.prog X.w X.K X.mg X.base (CXA X.prog X.w) k f fd ps sp) (hr : L2H.RoomH k X.A) (hp : p ∈ X.pn) (hg : Gl X x) (hm : X.mg x = some (.ref f)) (hk : PySem.W.keepIn X.K (.ref f) = true) (hb : Binds X.K fd ps [])
    (ha : PA X (e :: es) t) (hdb : (x == ("__debug__" : Str)) = false := by decide) (he : starEach (e :: es) X.env = (false, eval e X.env) :: starEach es X.env := by rfl) (hpl : (backTo pos (starEach es X.env)).any (·.1) = false := by rfl) :
    PE X (.Call (.Name x q) (e :: es) [] pos) (fun σ H Q => t σ H fun vs H1 => sp p vs H1 Q E0) := by
  refine ⟨fun pins s σ H Q I h => ?_⟩
  refine wpAny_Call_Name_kw (ld_glob I hg hm (PySem.W.callWith_K (h₀ := X.base) I.ok.mod.kin hk (thn (ha.run pos pins s σ H _ I h) fun us s1 ⟨vs, H1, I1, r, w⟩ => ⟨I1.kIn, ?_⟩) he hpl) hdb)
  have bz := hb s1 us I1.kIn (by rw [List.append_nil, ← r.length]; exact F.len _ _ _ _ _ w)
  rw [List.append_nil] at bz
  have pz := I1.pin p (List.mem_append_left _ hp)
  have ok : L2H.PinOk X.stack H1 s1 p := ⟨pz.1, pz.2.1, fun hm => (List.mem_cons.mp (I1.stkSub p.1 hm)).elim pz.2.2.1 pz.2.2.2.1, pz.2.2.2.2⟩
  refine wpAny_call (codeAny_mono (F.run X.A X.stack s1 H1 us vs Q E0 p hr ok I1.env0 bz r w) fun z s2 hz => ?_)
  match z, hz with
  | .error u, hz => exact (show False from by
      have hz' : CXA X.prog X.w X.stack H1 s1 E0 u s2 := hz
      obtain ⟨_, _, _, _, _, _, _, _, _, _, _, _, _, _, _, _, _, _, z⟩ := hz'
      exact z).elim
  | .ok (.ret u), hz => exact I1.after hz
/-- isinstance(e, c), e the exception that is kept apart -/
theorem call_isP {D : Addr} (hp : p ∈ X.pn) (Cd : ExcC X.K D) (hz : Zc (.ref D) none p.2) (hf : ∃ vs, p.2.data = .fields vs) : CallR X (.builtin "isinstance") (rIsE X.K D p.1) := by
  intro pins s σ H xs us Q I r ⟨c, cv, b, ex, hcv, ek, qq⟩
  subst ex
  match us, r with
  | [_, uc], .cons rx (.cons rt .nil) =>
    cases rx
    have ec := hcv _ rt
    subst ec
    obtain ⟨vs, hv⟩ := hf
    have J : PySem.W.InstAt s.heap p.1 p.2 D none := by
      have g := (I.pin p (List.mem_append_left _ hp)).1
      obtain ⟨a, ⟨oc, od, oda, osl⟩⟩ := p
      obtain ⟨h1, h2⟩ := hz
      dsimp only at h1 h2 hv g
      subst h1 h2 hv
      exact ⟨g, rfl, rfl, trivial⟩
    exact PySem.W.kia_one (PySem.W.handS_kitx_exc Cd.hg Cd.hk Cd.hs Cd.hd Cd.ha Cd.hn Cd.ht Cd.hm) I.kIn J ek (fun z => nomatch z) fun tk => ⟨.bl b, H, I.kept (t' := tk) fun _ _ z => z, rfl, qq⟩
end
end Lk

end
section
set_option maxRecDepth 100000
set_option maxHeartbeats 4000000
/-! Lk15: the def that tells a caught exception's class; try. -/
namespace Lk
open PySem PySem.Spec PyProof.Rows L2 Cr
/-! ### list.count, flat items -/
section
variable {X : Cx}
theorem eqU_count {x : V} : ∀ {ys : List V} {us : List Value}, Vals ys us → ys.all flatV = true → us.countP (eqU x) = ys.countP fun y => eqV y x
  | _, _, .nil, _ => rfl
  | y :: ys, u :: us, .cons r t, f => by
    rw [List.all_cons, Bool.and_eq_true] at f
    rw [List.countP_cons, List.countP_cons, eqU_count t f.2, eqU_of r f.1]
def rCntF (K : PySem.W.Frag) : V → List V → Hp → VK → Prop := fun x xs H Q => ∃ (p : Addr) (ys : List V) (y : V), x = .ref p ∧ xs = [y] ∧ SqL K H p ys ∧ flatV y = true ∧ ys.all flatV = true ∧ Q (.int (ys.countP fun z => eqV z y : Nat)) H
theorem mt_countF : MtR X "list.count" (rCntF X.K) := by
  intro pins s σ H x xs v us Q I rx rxs ⟨p, ys, y, e1, e2, hs, fy, fys, q⟩
  subst e1 e2
  cases rx
  obtain ⟨u, rfl, ru⟩ := rxs.one
  obtain ⟨its, rv, ⟨⟨c0, d0, data, sl⟩, n, ho, hc, hdn, hd⟩, hlen⟩ := I.list hs
  simp only at hc hd
  subst hc hd
  refine call_meets PySem.F.slot_list_count ⟨_, ho, rfl⟩ PySem.F.entry_list_count (PySem.F.args_list_count_2 _ _) (SeqAt.list_countAt p its.toArray n d0 sl u (eqU y))
    ⟨ho, fun z hz => mem_eqAt ru fy rv fys z (by simpa using hz), .int (ys.countP fun z => eqV z y : Nat), H, I.tok _, ⟨s.toks, ?_⟩, q⟩
  show Value.int ((its.toArray.toList.countP (eqU y) : Nat) : Int) s.toks = _
  rw [show its.toArray.toList = its from rfl, eqU_count rv fys]
end
/-! ### the own exceptions -/
def clN : List Str := ["BadMachine", "BadDemand", "BadLetters", "BadWord", "BadSet", "BadState", "BadText", "TooMuch"]
def clA (K : PySem.W.Frag) (c : Nat) : Addr := He.ga K (clN.getD c "SpandrelError")
def excCB (K : PySem.W.Frag) (D : Addr) : Bool :=
  decide (PySem.W.findIn K (.ref D) "__getattribute__" = some (some (.builtin "BaseException.__getattribute__"))) && (decide (PySem.W.findIn K (.ref D) "__getattr__" = some none) && (decide (PySem.W.subIn K (.ref D) (.type "BaseException") = some true) &&
    (PySem.W.hasDictIn K D && (decide (PySem.W.findIn K (.ref D) "__class__" = some (some (.builtin "object.__class__"))) && (decide (PySem.W.specialIn K (.builtin "object.__class__") "__get__" = some (some (.builtin "getset_descriptor.__get__"))) &&
      (decide (PySem.W.takesIn K (.builtin "object.__class__") = some true) && decide (PySem.W.mroIn K D (.type "object") = some true)))))))
theorem excCB_ok {K : PySem.W.Frag} {D : Addr} (h : excCB K D = true) : ExcC K D := by
  unfold excCB at h
  simp only [Bool.and_eq_true, decide_eq_true_eq] at h
  obtain ⟨h1, h2, h3, h4, h5, h6, h7, h8⟩ := h
  exact ⟨h1, h2, h3, h4, h5, h6, h7, h8⟩
/-- what the module must say of them -/
structure ClsF (K : PySem.W.Frag) : Prop where
  is : ∀ c, c < 8 → ExcC K (clA K c)
  kit : ∀ c, c < 8 → ∀ j, j < 8 → PySem.W.kitOne K (.ref (clA K c)) (.ref (clA K j)) = some (c == j)
  sp : ∀ c, c < 8 → PySem.W.exmOne K (.ref (clA K c)) (.ref (He.ga K "SpandrelError")) = some true
  ve : ∀ c, c < 8 → PySem.W.kitOne K (.ref (clA K c)) (.type "ValueError") = some true
  ks : ∀ c, c < 8 → PySem.W.kitOne K (.ref (clA K c)) (.ref (He.ga K "SpandrelError")) = some true
  st : ∀ c, c < 8 → PySem.W.findIn K (.ref (clA K c)) "__str__" = some (some (.builtin "BaseException.__str__"))
def clsB (K : PySem.W.Frag) : Bool := (List.range 8).all fun c => excCB K (clA K c) && ((List.range 8).all (fun j => decide (PySem.W.kitOne K (.ref (clA K c)) (.ref (clA K j)) = some (c == j))) &&
  (decide (PySem.W.exmOne K (.ref (clA K c)) (.ref (He.ga K "SpandrelError")) = some true) && (decide (PySem.W.kitOne K (.ref (clA K c)) (.type "ValueError") = some true) &&
    (decide (PySem.W.kitOne K (.ref (clA K c)) (.ref (He.ga K "SpandrelError")) = some true) && decide (PySem.W.findIn K (.ref (clA K c)) "__str__" = some (some (.builtin "BaseException.__str__")))))))
theorem clsB_ok {K : PySem.W.Frag} (h : clsB K = true) : ClsF K := by
  unfold clsB at h
  simp only [List.all_eq_true, List.mem_range, Bool.and_eq_true, decide_eq_true_eq] at h
  exact ⟨fun c hc => excCB_ok (h c hc).1, fun c hc j hj => (h c hc).2.1 j hj, fun c hc => (h c hc).2.2.1, fun c hc => (h c hc).2.2.2.1, fun c hc => (h c hc).2.2.2.2.1, fun c hc => (h c hc).2.2.2.2.2⟩
/-! ### the def that tells the class -/
/-- its promise -/
def spC (K : PySem.W.Frag) : Addr × Obj → Sp := fun p vs H Q _ => ∃ c t, c < 8 ∧ vs = [.ref p.1] ∧ Za (.ref (clA K c)) t p.2 ∧ (∃ fs, p.2.data = .fields fs) ∧ H t = some (.tup []) ∧ ∀ H', (∀ a o, H a = some o → H' a = some o) → Q (.str (nmC.getD c "")) H'
/-- the promise of the def that tells whether it is one at all -/
def spV (K : PySem.W.Frag) : Addr × Obj → Sp := fun p vs H Q _ => ∃ c, c < 8 ∧ vs = [.ref p.1] ∧ Zc (.ref (clA K c)) none p.2 ∧ (∃ fs, p.2.data = .fields fs) ∧ ∀ H', (∀ a o, H a = some o → H' a = some o) → Q (.bl true) H'
/-- a test of the exception in slot 0 -/
def tIs (a : Addr) (bs : List Bool) : TA := fun σ H Q => σ[0]? = some (some (.ref a)) ∧ Q (bs.map V.bl) H
def tNo (a : Addr) : TT := fun σ H Q => σ[0]? = some (some (.ref a)) ∧ Q false H
/-- .. that may ask for its arguments, at t, and may leave new things behind -/
def tNoX (a t : Addr) : TT := fun σ H Q => σ[0]? = some (some (.ref a)) ∧ H t = some (.tup []) ∧ ∀ H', (∀ b o, H b = some o → H' b = some o) → Q false H'
theorem tNo.x {a t : Addr} {σ : L2.St} {H : Hp} {Q : Bool → Hp → Prop} (h : tNoX a t σ H Q) : tNo a σ H Q := ⟨h.1, h.2.2 H fun _ _ z => z⟩
theorem tNoX.two {a t : Addr} {σ : L2.St} {H : Hp} {Q : Bool → Hp → Prop} (h : tNoX a t σ H Q) : tOr (tNoX a t) (tNoX a t) σ H Q := by
  refine ⟨h.1, h.2.1, fun H1 x1 => ?_⟩
  show (if false = true then _ else _)
  rw [if_neg (by decide)]
  exact ⟨h.1, x1 _ _ h.2.1, fun H2 x2 => h.2.2 H2 fun b o e => x2 b o (x1 b o e)⟩
section
variable {X : Cx} {p : Addr × Obj} {c j : Nat} {x y : Str} {px py pf pos : Pos} {cs : List Expr} {bs : List Bool}
theorem is_nil {a : Addr} : PA X [] (tIs a []) := PA.mono pa_nil fun σ H Q h => h.2
theorem pe_isP (F : ClsF X.K) (hp : p ∈ X.pn) (hc : c < 8) (hj : j < 8) (hz : Zc (.ref (clA X.K c)) none p.2) (hf : ∃ vs, p.2.data = .fields vs) (hg : Gl X "isinstance") (hm : X.mg "isinstance" = none) (h0 : PE X (.Name x px) (tVar 0)) (gy : Gl X y) (my : X.mg y = some (.ref (clA X.K j)))
    (hd : (y == ("__debug__" : Str)) = false) (he : starEach (.Name x px :: .Name y py :: []) X.env = (false, eval (.Name x px) X.env) :: starEach (.Name y py :: []) X.env := by rfl) (he2 : starEach (.Name y py :: []) X.env = (false, eval (.Name y py) X.env) :: starEach [] X.env := by rfl)
    (hpl : (backTo pos (starEach (.Name y py :: []) X.env)).any (·.1) = false := by rfl) : PE X (.Call (.Name "isinstance" pf) [.Name x px, .Name y py] [] pos) (fun σ H Q => σ[0]? = some (some (.ref p.1)) ∧ Q (.bl (c == j)) H) :=
  PE.mono (pe_callB (call_isP hp (F.is c hc) hz hf) hg hm (by decide +kernel) (pa_cons h0 (pa_cons (pe_glob (v := .ref (clA X.K j)) gy my rfl hd) pa_nil he2) he) (by decide) (by decide) he hpl) fun σ H Q h =>
    ⟨_, h.1, .ref (clA X.K j), .ref (clA X.K j), _, rfl, fun u r => r, F.kit c hc j hj, h.2⟩
theorem is_cons (h : PE X (.Call (.Name "isinstance" pf) [.Name x px, .Name y py] [] pos) (fun σ H Q => σ[0]? = some (some (.ref p.1)) ∧ Q (.bl (c == j)) H)) (hr : PA X cs (tIs p.1 bs))
    (he : starEach (.Call (.Name "isinstance" pf) [.Name x px, .Name y py] [] pos :: cs) X.env = (false, eval (.Call (.Name "isinstance" pf) [.Name x px, .Name y py] [] pos) X.env) :: starEach cs X.env := by rfl) :
    PA X (.Call (.Name "isinstance" pf) [.Name x px, .Name y py] [] pos :: cs) (tIs p.1 ((c == j) :: bs)) := PA.mono (pa_cons h hr he) fun σ H Q h => ⟨h.1, h.1, h.2⟩
/-- not isinstance(e, ValueError) -/
theorem pt_veP (F : ClsF X.K) (hp : p ∈ X.pn) (hc : c < 8) (hz : Zc (.ref (clA X.K c)) none p.2) (hf : ∃ vs, p.2.data = .fields vs) (hg : Gl X "isinstance") (hm : X.mg "isinstance" = none) (h0 : PE X (.Name x px) (tVar 0)) (gy : Gl X "ValueError") (my : X.mg "ValueError" = none) {pn : Pos}
    (he : starEach (.Name x px :: .Name "ValueError" py :: []) X.env = (false, eval (.Name x px) X.env) :: starEach (.Name "ValueError" py :: []) X.env := by rfl) (he2 : starEach (.Name "ValueError" py :: []) X.env = (false, eval (.Name "ValueError" py) X.env) :: starEach [] X.env := by rfl)
    (hpl : (backTo pos (starEach (.Name "ValueError" py :: []) X.env)).any (·.1) = false := by rfl)
    (ht : ∀ whole, isTrue (.Call (.Name "isinstance" pf) [.Name x px, .Name "ValueError" py] [] pos) X.env whole = (do let v ← whole; standAt (Expr.pos (.Call (.Name "isinstance" pf) [.Name x px, .Name "ValueError" py] [] pos)); holding [v] (truthy v)) := by intro _; rfl) :
    PT X (.UnaryOp .Not (.Call (.Name "isinstance" pf) [.Name x px, .Name "ValueError" py] [] pos) pn) (tNo p.1) :=
  PT.mono (pt_not (pt_val (PE.mono (pe_callB (call_isP hp (F.is c hc) hz hf) hg hm (by decide +kernel) (pa_cons h0 (pa_cons (pe_bltn (v := .ty "ValueError") gy my (by decide +kernel) rfl) pa_nil he2) he) (by decide) (by decide) he hpl)
    (t' := fun σ H Q => σ[0]? = some (some (.ref p.1)) ∧ Q (.bl true) H) fun σ H Q h => ⟨_, h.1, .ty "ValueError", .type "ValueError", _, rfl, fun u r => r, F.ve c hc, h.2⟩) ht)) fun σ H Q h => ⟨h.1, true, rfl, h.2⟩
theorem pt_x {e : Expr} {a t : Addr} (h : PT X e (tNo a)) : PT X e (tNoX a t) := PT.mono h fun σ H Q q => tNo.x q
theorem pt_or2 {a t : Addr} {e1 e2 : Expr} {q : Pos} (h1 : PT X e1 (tNoX a t)) (h2 : PT X e2 (tNoX a t)) : PW X (.BoolOp .Or [e1, e2] q) (tNoX a t) := PW.mono (pw_or h1 (pw_or1 h2)) fun σ H Q q => q.two
/-- not f(e), f the def that tells whether it is one -/
theorem pt_ofP {k : Nat} {f : Addr} {fd : FuncData} {ps : List Str} {pn : Pos} {t : Addr} (hp : p ∈ X.pn) (hc : c < 8) (hz : Za (.ref (clA X.K c)) t p.2) (hf : ∃ vs, p.2.data = .fields vs) (FV : FnE X.prog X.w X.K X.mg X.base (CXA X.prog X.w) k f fd ps (spV X.K)) (hr : L2H.RoomH k X.A) (hg : Gl X y) (hm : X.mg y = some (.ref f)) (hk : PySem.W.keepIn X.K (.ref f) = true) (hb : Binds X.K fd ps [])
    (h0 : PE X (.Name x px) (tVar 0)) (hdb : (y == ("__debug__" : Str)) = false := by decide) (he : starEach (.Name x px :: []) X.env = (false, eval (.Name x px) X.env) :: starEach [] X.env := by rfl)
    (ht : ∀ whole, isTrue (.Call (.Name y pf) [.Name x px] [] pos) X.env whole = (do let v ← whole; standAt (Expr.pos (.Call (.Name y pf) [.Name x px] [] pos)); holding [v] (truthy v)) := by intro _; rfl) :
    PT X (.UnaryOp .Not (.Call (.Name y pf) [.Name x px] [] pos) pn) (tNoX p.1 t) :=
  PT.mono (pt_not (pt_val (pe_callE FV hr hp hg hm hk hb (pa_cons h0 pa_nil he) hdb he (by rfl)) ht)) fun σ H Q h => ⟨_, h.1, c, hc, rfl, hz.1, hf, fun H' x => ⟨true, rfl, h.2.2 H' x⟩⟩
/-- str(e), e the exception that is kept apart, made without arguments -/
theorem call_strP {t : Addr} (hu : X.A.units + 65 < cLine) (F : ClsF X.K) (hp : p ∈ X.pn) (hc : c < 8) (hz : Za (.ref (clA X.K c)) t p.2) (hf : ∃ vs, p.2.data = .fields vs) : CallR X (.type "str") (fun xs H Q => xs = [.ref p.1] ∧ H t = some (.tup []) ∧ Q (.str Str.empty) H) := by
  intro pins s σ H xs us Q I r ⟨ex, ht, q⟩
  subst ex
  obtain ⟨u, rfl, ru⟩ := r.one
  obtain rfl : u = Value.ref p.1 := ru
  obtain ⟨fs, hd⟩ := hf
  obtain ⟨_, its, rv, ob, e1, e2, n, e3⟩ := I.hok t _ ht
  cases rv
  exact PySem.P.str_of_C_none (by omega) ⟨I.kIn, p.2, fs, (I.pin p (List.mem_append_left _ hp)).1, hz.1.1, hd, hz.2 fs hd⟩ ⟨ob, n, e1, e2, e3⟩ (F.st c hc) (F.is c hc).hs ⟨.str Str.empty, H, I.tok _, ⟨_, rfl⟩, q⟩
theorem pt_strP {t : Addr} {j0 : Nat} {p0 pc : Pos} (hu : X.A.units + 65 < cLine) (F : ClsF X.K) (hp : p ∈ X.pn) (hc : c < 8) (hz : Za (.ref (clA X.K c)) t p.2) (hf : ∃ vs, p.2.data = .fields vs) (hg : Gl X "str") (hm : X.mg "str" = none) (h0 : PE X (.Name x px) (tVar 0))
    (he : starEach (.Name x px :: []) X.env = (false, eval (.Name x px) X.env) :: starEach [] X.env := by rfl) : PT X (.Compare (.Call (.Name "str" pf) [.Name x px] [] pos) [.NotEq] [.Constant (.str Str.empty) j0 p0] pc) (tNoX p.1 t) :=
  PT.mono (pt_cmpR op_ne (pe_callTy (call_strP hu F hp hc hz hf) hg hm (by decide +kernel) (pa_cons h0 pa_nil he) (by decide) (by decide) he (by rfl)) pe_str (nomark _)) fun σ H Q h => ⟨_, h.1, rfl, h.2.1, rfl, by simpa using h.2.2 H fun _ _ z => z⟩
/-- isinstance(e, B) and isinstance(e, ValueError) -/
theorem ps_ofP {p1 p2 p3 p4 pa pb pr : Pos} (F : ClsF X.K) (hp : p ∈ X.pn) (hc : c < 8) (hz : Zc (.ref (clA X.K c)) none p.2) (hf : ∃ vs, p.2.data = .fields vs) (hg : Gl X "isinstance") (hm : X.mg "isinstance" = none) (h0 : PE X (.Name x px) (tVar 0)) (gy : Gl X "SpandrelError") (my : X.mg "SpandrelError" = some (.ref (He.ga X.K "SpandrelError")))
    (gv : Gl X "ValueError") (mv : X.mg "ValueError" = none)
    (he : starEach (.Name x px :: .Name "SpandrelError" p1 :: []) X.env = (false, eval (.Name x px) X.env) :: starEach (.Name "SpandrelError" p1 :: []) X.env := by rfl) (he2 : starEach (.Name "SpandrelError" p1 :: []) X.env = (false, eval (.Name "SpandrelError" p1) X.env) :: starEach [] X.env := by rfl)
    (hv : starEach (.Name x p4 :: .Name "ValueError" p2 :: []) X.env = (false, eval (.Name x p4) X.env) :: starEach (.Name "ValueError" p2 :: []) X.env := by rfl) (hv2 : starEach (.Name "ValueError" p2 :: []) X.env = (false, eval (.Name "ValueError" p2) X.env) :: starEach [] X.env := by rfl) (h4 : PE X (.Name x p4) (tVar 0)) :
    PS X (.Return (some (.BoolOp .And [.Call (.Name "isinstance" pf) [.Name x px, .Name "SpandrelError" p1] [] pa, .Call (.Name "isinstance" p3) [.Name x p4, .Name "ValueError" p2] [] pb] pos)) pr) (fun D σ H => σ[0]? = some (some (.ref p.1)) ∧ D.rt (.bl true) H) :=
  PS.mono (ps_ret (pe_and
    (PE.mono (pe_callB (call_isP hp (F.is c hc) hz hf) hg hm (by decide +kernel) (pa_cons h0 (pa_cons (pe_glob (v := .ref (He.ga X.K "SpandrelError")) gy my rfl (by decide)) pa_nil he2) he) (by decide) (by decide) he (by rfl))
      (t' := fun σ H Q => σ[0]? = some (some (.ref p.1)) ∧ Q (.bl true) H) fun σ H Q h => ⟨_, h.1, .ref (He.ga X.K "SpandrelError"), .ref (He.ga X.K "SpandrelError"), _, rfl, fun u r => r, F.ks c hc, h.2⟩)
    (pe_one (PE.mono (pe_callB (call_isP hp (F.is c hc) hz hf) hg hm (by decide +kernel) (pa_cons h4 (pa_cons (pe_bltn (v := .ty "ValueError") gv mv (by decide +kernel) rfl) pa_nil hv2) hv) (by decide) (by decide) hv (by rfl))
      (t' := fun σ H Q => σ[0]? = some (some (.ref p.1)) ∧ Q (.bl true) H) fun σ H Q h => ⟨_, h.1, .ty "ValueError", .type "ValueError", _, rfl, fun u r => r, F.ve c hc, h.2⟩)))) fun D σ H h => ⟨h.1, true, rfl, by
      show (if true = true then _ else _)
      rw [if_pos rfl]
      exact h⟩
end
/-! ### the body of the def that tells the class -/
section
variable {X : Cx} {a w : Addr} {bs : List Bool} {st1 st3 : Stmt} {b1 : List Stmt} {test : Expr} {t1 : TS} {zs : List Str} {pos : Pos} {j : Nat} {z : Str}
def tStrs (zs : List Str) : TA := fun _ H Q => Q (zs.map V.str) H
theorem strs_nil : PA X [] (tStrs []) := pa_nil
theorem strs_cons {x : Str} {j0 p0} {es : List Expr} (hr : PA X es (tStrs zs)) (he : starEach (.Constant (.str x) j0 p0 :: es) X.env = (false, eval (.Constant (.str x) j0 p0) X.env) :: starEach es X.env := by rfl) : PA X (.Constant (.str x) j0 p0 :: es) (tStrs (x :: zs)) :=
  PA.mono (pa_cons pe_str hr he) fun σ H Q h => h
abbrev tCnt (K : PySem.W.Frag) : TE := tBM K "list" (rCntF K) (tVar 1) (tCons (tC (.bl true)) tNil)
abbrev tInd (K : PySem.W.Frag) : TE := tBM K "list" (rIndex K) (tVar 1) (tCons (tC (.bl true)) tNil)
theorem flat_bls (bs : List Bool) : (bs.map V.bl).all flatV = true := by simp [flatV]
theorem cnt_bls (bs : List Bool) : ((bs.map V.bl).countP fun z => eqV z (.bl true)) = bs.count true := by
  rw [List.countP_map, List.count]
  congr 1
theorem class_run (h1 : PS X st1 (tAsg (tLst (tIs a bs)) (gName 1))) (h2 : PT X test (tOr (tTest (tOp rNe (tCnt X.K) (tC (.int 1)))) (tNoX a w))) (h3 : PSs X b1 t1) (h4 : PS X st3 (tRet (tOp (rIx X.K) (tLst (tStrs zs)) (tInd X.K))))
    (hb : bs.length ≤ 100) (hz : zs.length ≤ 100) (hc : bs.count true = 1) (hj : bs[j]? = some true) (hm : ∀ m, m < j → bs[m]? = some false) (hjz : zs[j]? = some z) :
    ∃ t, PSs X [st1, .If test b1 [] pos, st3] t ∧ ∀ (Q : VK) (σ : L2.St) (H : Hp), σ[0]? = some (some (.ref a)) → 1 < σ.length → H w = some (.tup []) → (∀ H', (∀ b o, H b = some o → H' b = some o) → Q (.str z) H') → t { nx := fun _ H' => Q .non H', rt := Q } σ H := by
  refine ⟨_, pss_cons h1 (pss_cons (ps_if h2 h3 pss_nil) (pss_one h4)), fun Q σ H h0 hl hw hq => ?_⟩
  have hs := sizeLine_eq
  refine ⟨h0, by rw [List.length_map, hs]; omega, fun p hp => ?_⟩
  have e0 : (σ.set 1 (some (V.ref p)))[0]? = some (some (.ref a)) := by rw [List.getElem?_set_ne (by decide)]; exact h0
  have e1 : (σ.set 1 (some (V.ref p)))[1]? = some (some (.ref p)) := List.getElem?_set_self hl
  have sq : SqL X.K (upd H p (.lst (bs.map V.bl))) p (bs.map V.bl) := SqL.of upd_same
  have ty : tyV X.K "list" (.ref p) (upd H p (.lst (bs.map V.bl))) := .inl ⟨rfl, _, sq⟩
  refine ⟨_, e1, ty, p, bs.map V.bl, .bl true, rfl, rfl, sq, rfl, flat_bls _, rfl, _, rfl, ?_⟩
  rw [cnt_bls, hc]
  show (if (!decide (V.int ((1 : Nat) : Int) = V.int 1)) = true then _ else tNoX a w _ _ _)
  rw [if_neg (by simp)]
  refine ⟨e0, by rw [upd_ne fun z => by rw [z, hp] at hw; cases hw]; exact hw, fun H2 x2 => ?_⟩
  show (if false = true then _ else _)
  rw [if_neg (by decide)]
  refine ⟨by rw [List.length_map, hs]; omega, fun p2 hp2 => ?_⟩
  have at2 : H2 p = some (.lst (bs.map V.bl)) := x2 _ _ upd_same
  have np : p ≠ p2 := fun e => by rw [← e, at2] at hp2; cases hp2
  have sq2 : SqL X.K (upd H2 p2 (.lst (zs.map V.str))) p (bs.map V.bl) := SqL.of (by rw [upd_ne np, at2])
  refine ⟨_, e1, .inl ⟨rfl, _, sq2⟩, p, bs.map V.bl, .bl true, j, .bl true, rfl, rfl, sq2, rfl, flat_bls _, by rw [List.getElem?_map, hj]; rfl, by decide, fun m z' hm' hz' => ?_, .inl ⟨p2, zs.map V.str, j, .str z, rfl, rfl, SqL.of upd_same, ?_, hq _ fun b o e => ?_⟩⟩
  · rw [List.getElem?_map, hm m hm'] at hz'
    cases hz'
    rfl
  · unfold atI L2.ixN
    have : j < zs.length := (List.getElem?_eq_some_iff.mp hjz).1
    rw [if_pos (by omega), if_pos (by rw [List.length_map]; omega)]
    simp [hjz]
  · have nb : b ≠ p := fun e' => by rw [e', hp] at e; cases e
    have e2 : H2 b = some o := x2 b o (by rw [upd_ne nb]; exact e)
    rw [upd_ne fun e' => by rw [e', hp2] at e2; cases e2]
    exact e2
end
theorem all_dat' {pm : List Md} (h : pm.all (fun m => decide (m = .dat)) = true) : ∀ m ∈ pm, m = .dat := fun m hm => of_decide_eq_true (List.all_eq_true.mp h m hm)
theorem c8 {c : Nat} (h : c < 8) : [c == 0, c == 1, c == 2, c == 3, c == 4, c == 5, c == 6, c == 7].count true = 1 ∧ [c == 0, c == 1, c == 2, c == 3, c == 4, c == 5, c == 6, c == 7][c]? = some true ∧
    (∀ m, m < c → [c == 0, c == 1, c == 2, c == 3, c == 4, c == 5, c == 6, c == 7][m]? = some false) ∧ nmC[c]? = some (nmC.getD c "") := by
  have : c = 0 ∨ c = 1 ∨ c = 2 ∨ c = 3 ∨ c = 4 ∨ c = 5 ∨ c = 6 ∨ c = 7 := by omega
  rcases this with rfl | rfl | rfl | rfl | rfl | rfl | rfl | rfl <;> decide +kernel
theorem pin_dat {K : PySem.W.Frag} {cl : Nat → Addr} {pm gs : List Md} {rm : Md} {E : XK} (h : pm.all (fun m => decide (m = .dat)) = true) : ∀ j, (cc K cl pm gs rm E).pin j = false := fun j => by
  show (ownB pm)[j]?.getD false = false
  unfold ownB
  rw [List.getElem?_map]
  cases e : pm[j]? with
  | none => rfl
  | some m => simp [all_dat' h m (List.mem_of_getElem? e)]
/-! ### try: .. except SpandrelError as e: return f(e) -/
/-- an answer that stands for d -/
def GiveD (K : PySem.W.Frag) (D : Ends) (H : Hp) (d : Cr.D) : Prop := ∀ v H', (∀ a o, H a = some o → H' a = some o) → (∀ O : Addr → Prop, (∀ a, O a → H a ≠ none) → Rep K O H' d v) → D.rt v H'
def tGv (K : PySem.W.Frag) (i : Nat) (g : Nat → D) (a t : Addr) (cls : Value) : TS := fun D σ H => ∃ c, c < 8 ∧ cls = .ref (clA K c) ∧ σ[i]? = some (some (.ref a)) ∧ H t = some (.tup []) ∧ GiveD K D H (g c)
section
variable {X : Cx} {C : Cc} {i : Nat} {n : Str} {np pos pos' : Pos} {body suite : List Stmt} {b0 : Stmt} {b : S} {g : Nat → D} {W : WX}
/-- the answers are such as the def may give -/
def Ans (C : Cc) (g : Nat → D) : Prop := C.rm = .dat ∨ (C.rm = .ox ∧ ∀ c, nolst (g c) = true)
theorem rs_try (hX : X.K = C.K) (F : ClsF C.K) (hs : X.stack = X.env :: X.outer) (hf : X.env.frame = some X.env.locals) (hN : X.N.Nodup) (hi : X.N[i]? = some n) (hln : X.env.kindOf n = some .local) (hc : Gl X "SpandrelError") (hm : X.mg "SpandrelError" = some (.ref (He.ga C.K "SpandrelError")))
    (hpin : ∀ j, C.pin j = false) (hrm : Ans C g) (hb : ∀ (W : WX) (pn : List (Addr × Obj)) (xe : Value → Shared → Prop), TkA (X.tr pn xe) W → PSs (X.tr pn xe) body (tS { C with W := fun c σ H => W (.ref (clA C.K c)) none σ H } b))
    (hsu : ∀ (a t : Addr) (oe : Obj) (cls : Value) (pn : List (Addr × Obj)), Za cls t oe → (∃ vs, oe.data = .fields vs) → PSs (X.suite a ((a, oe) :: pn)) (b0 :: suite) (tGv C.K i g a t cls)) :
    PS X (.Try body [.ExceptHandler (some (.Name "SpandrelError" np)) (some n) (b0 :: suite) pos'] [] [] pos) (tS C (tryC i b g)) := by
  refine PS.mono (ps_tryA (c := .ref (He.ga C.K "SpandrelError")) (i := i) hs hf hN hi hln ⟨hc, by decide, .inl hm⟩ (fun W pn xe t => hb W pn xe t) hsu) fun D σ H ⟨ε, Fp, P, R, h⟩ => ⟨ε, Fp, P, R, ?_⟩
  unfold tryC at h
  cases eb : b ε with
  | bad => rw [eb] at h; exact h
  | ok f e1 =>
    rw [eb] at h
    cases f with
    | nx => exact h
    | bk => exact h
    | ct => exact h
    | rt d => exact h
  | exn c e1 =>
    simp only [eb] at h
    by_cases hcc : c < 8 ∧ i < e1.length ∧ e1.length = ε.length
    case neg => rw [if_neg hcc] at h; exact h.elim
    rw [if_pos hcc] at h
    intro σ' H' F' R' y
    refine ⟨by rw [hX]; exact F.sp c hcc.1, fun a t na ht => ⟨c, hcc.1, rfl, List.getElem?_set_self (by rw [← R'.len]; exact hcc.2.1), ht, fun v H2 ext rep => ?_⟩⟩
    have R2 := R'.grow ext
    refine h v σ' H2 F' [] (R2.ext (fun a o q => q) fun a z => z.elim .inl fun z => by cases z) (y.trans (Fr.ext ext)) ⟨by rw [← R'.len, hcc.2.2, R.len], fun j hj => by rw [hpin j] at hj; cases hj⟩ (fun a z => by cases z) ?_
    have rr : Rep C.K (Own F' fun a => P a ∨ a ∈ ([] : List Addr)) H2 (g c) v := Rep.weak (fun a z => z.elim (fun z => z.elim .inl fun z => by cases z) .inr) (rep (Own F' P) R'.dom)
    rcases hrm with hrm | ⟨hrm, hn⟩
    · rw [hrm]; exact ⟨rfl, rr⟩
    · rw [hrm]; exact .inr ⟨hn c, rfl, rr⟩
/-- return f(e) -/
theorem su_cls {a t : Addr} {oe : Obj} {cls : Value} {pn : List (Addr × Obj)} {k : Nat} {f : Addr} {fd : FuncData} {ps : List Str} {x : Str} {pf px pc pr : Pos} (hX : X.K = C.K) (hz : Za cls t oe) (hf : ∃ vs, oe.data = .fields vs)
    (FE : FnE X.prog X.w X.K X.mg X.base (CXA X.prog X.w) k f fd ps (spC C.K)) (hr : RoomG k X.A) (hg : Gl X x) (hm : X.mg x = some (.ref f)) (hk : PySem.W.keepIn X.K (.ref f) = true) (hb : Binds X.K fd ps []) (hv : PE (X.suite a ((a, oe) :: pn)) (.Name n px) (tVar i))
    (hdb : (x == ("__debug__" : Str)) = false := by decide) (he : starEach (.Name n px :: []) X.env = (false, eval (.Name n px) X.env) :: starEach [] X.env := by rfl) :
    PSs (X.suite a ((a, oe) :: pn)) [.Return (some (.Call (.Name x pf) [.Name n px] [] pc)) pr] (tGv C.K i (fun c => .str (nmC.getD c "")) a t cls) := by
  refine PSs.mono (pss_one (ps_ret (pe_callE (p := (a, oe)) FE ⟨hr.dp, hr.un⟩ List.mem_cons_self hg hm hk hb (pa_cons hv pa_nil he) hdb he rfl))) fun D σ H ⟨c, hc, e1, hσ, ht, q⟩ => ?_
  subst e1
  exact ⟨_, hσ, c, t, hc, rfl, hz, hf, ht, fun H' ext => q _ H' ext fun O _ => rfl⟩
/-- return ('..', f(e)) -/
theorem su_clsT {a t : Addr} {oe : Obj} {cls : Value} {pn : List (Addr × Obj)} {k : Nat} {f : Addr} {fd : FuncData} {ps : List Str} {x m : Str} {pf px pc pr pm pt : Pos} {jm x1} (hX : X.K = C.K) (hz : Za cls t oe) (hf : ∃ vs, oe.data = .fields vs)
    (FE : FnE X.prog X.w X.K X.mg X.base (CXA X.prog X.w) k f fd ps (spC C.K)) (hr : RoomG k X.A) (hg : Gl X x) (hm : X.mg x = some (.ref f)) (hk : PySem.W.keepIn X.K (.ref f) = true) (hb : Binds X.K fd ps []) (hv : PE (X.suite a ((a, oe) :: pn)) (.Name n px) (tVar i))
    (hdb : (x == ("__debug__" : Str)) = false := by decide) (he : starEach (.Name n px :: []) X.env = (false, eval (.Name n px) X.env) :: starEach [] X.env := by rfl)
    (he1 : starEach (.Constant (.str m) jm pm :: .Call (.Name x pf) [.Name n px] [] pc :: []) X.env = (false, eval (.Constant (.str m) jm pm) X.env) :: starEach (.Call (.Name x pf) [.Name n px] [] pc :: []) X.env := by rfl)
    (he2 : starEach (.Call (.Name x pf) [.Name n px] [] pc :: []) X.env = (false, eval (.Call (.Name x pf) [.Name n px] [] pc) X.env) :: starEach [] X.env := by rfl) :
    PSs (X.suite a ((a, oe) :: pn)) [.Return (some (.Tuple [.Constant (.str m) jm pm, .Call (.Name x pf) [.Name n px] [] pc] x1 pt)) pr] (tGv C.K i (fun c => .tup [.str m, .str (nmC.getD c "")]) a t cls) := by
  refine PSs.mono (pss_one (ps_ret (pe_tup (pa_cons pe_str (pa_cons (pe_callE (p := (a, oe)) FE ⟨hr.dp, hr.un⟩ List.mem_cons_self hg hm hk hb (pa_cons hv pa_nil he) hdb he rfl) pa_nil he2) he1)))) fun D σ H ⟨c, hc, e1, hσ, ht, q⟩ => ?_
  subst e1
  refine ⟨_, hσ, c, t, hc, rfl, hz, hf, ht, fun H' ext => ⟨by rw [sizeLine_eq]; simp, fun p hp => q _ _ (fun b o e => ?_) fun O hO => ⟨p, _, rfl, .inl ⟨fun z => hO p z ?_, Rd.of upd_same⟩, _, _, rfl, rfl, _, _, rfl, rfl, rfl⟩⟩⟩
  · have := ext b o e
    rw [upd_ne fun z => by rw [z, hp] at this; cases this]
    exact this
  · cases e : H p with
    | none => rfl
    | some o => rw [ext p o e] at hp; cases hp
end
end Lk

end
section
set_option maxRecDepth 100000
set_option maxHeartbeats 4000000
/-! Lk16: t * n of any n from 0; slices; tuple(range(..)). -/
namespace Lk
open PySem PySem.Spec PyProof.Rows L2 Cr
section
variable (l : Addr) (its : Array Value) (n : Nat) (dd : Option Addr) (sl : Array (Option Value)) (u : Tok)
theorem mul_once :
    Meets (Builtin.«tuple.__mul__» ⟨[.ref l, .int 1 u], []⟩) (fun _ R s => s.heap.get? l = some { cls := .type "tuple", dict := dd, data := .seq its n, slots := sl } ∧ R (.ok (.ret (.ref l))) s) :=
  .of_wp fun prog w A R s h => by
    obtain ⟨hp, g, d, tk, os⟩ := s
    obtain ⟨hl, h⟩ := h
    have ix := AutoSeq1.idx_int
    have c1 : (its.isEmpty || (1 : Int) == 1) = true := by simp
    wp_walk using wpAny_loadPart' hl
    repeat (first
      | (refine wpAny_ite_false (decide_eq_false (by decide)) ?_; wp_walk using wpAny_loadPart' hl)
      | (refine wpAny_ite_true (decide_eq_true c1) ?_; wp_walk using wpAny_loadPart' hl))
    exact ⟨_, rfl, h⟩
theorem mul_none (hn : its.isEmpty = false) :
    Meets (Builtin.«tuple.__mul__» ⟨[.ref l, .int 0 u], []⟩) (fun _ R s => s.heap.get? l = some { cls := .type "tuple", dict := dd, data := .seq its n, slots := sl } ∧
      R (.ok (.ret (Value.ref s.heap.objs.size))) { s with heap := s.heap.push { cls := Value.type "tuple", data := Data.seq #[] }, toks := s.toks }) :=
  .of_wp fun prog w A R s h => by
    obtain ⟨hp, g, d, tk, os⟩ := s
    obtain ⟨hl, h⟩ := h
    have ix := AutoSeq1.idx_int
    have c1 : ¬ ((its.isEmpty || (0 : Int) == 1) = true) := by rw [hn]; decide
    have c2 : (decide ((0 : Int) ≤ 0) || its.isEmpty) = true := by rw [hn]; decide
    wp_walk using wpAny_loadPart' hl
    repeat (first
      | (refine wpAny_ite_false (decide_eq_false c1) ?_; wp_walk using wpAny_loadPart' hl)
      | (refine wpAny_ite_true (decide_eq_true c2) ?_; wp_walk using wpAny_loadPart' hl))
    exact ⟨_, rfl, h⟩
end
/-- t * n, n from 0 -/
def rRepA (K : PySem.W.Frag) : R2 := fun x y H Q => ∃ l k xs, x = .ref l ∧ y = .int k ∧ SqT K H l xs ∧ xs ≠ [] ∧ 0 ≤ k ∧ k ≤ 1000 ∧ xs.length ≤ 1000 ∧ (k = 1 → Q (.ref l) H) ∧ (k ≠ 1 → ∀ p, H p = none → Q (.ref p) (upd H p (.tup (List.replicate k.toNat xs).flatten)))
theorem op_repA {X : Cx} : OpR X (binaryOp .Mult) (rRepA X.K) := by
  intro pins s σ H x y v u Q I rx ry ⟨l, k, xs, e1, e2, hT, hne, k0, k1, hz, q1, q2⟩
  subst e1 e2
  by_cases h2 : 2 ≤ k
  · exact op_repT pins s σ H _ _ v u Q I rx ry ⟨l, k, xs, rfl, rfl, hT, hne, h2, k1, hz, q2 (by omega)⟩
  cases rx
  obtain ⟨t, rfl⟩ := ry
  obtain ⟨its, r, ⟨⟨cls, dd, data, sl⟩, ho, hc, n, hd⟩, hs⟩ := I.tuple hT
  simp only at hc hd
  subst hc hd
  have hi : its.toArray.isEmpty = false := by
    cases its with
    | nil => cases xs with
      | nil => exact absurd rfl hne
      | cons _ _ => cases r
    | cons a b => rfl
  have hk : k = 0 ∨ k = 1 := by omega
  rcases hk with rfl | rfl
  · refine wpAny_binaryOp_repeat_ref (T := "tuple") (U := "int") (by decide) ⟨_, ho, rfl⟩ (fun s' => typeIs_int s' 0 t) noFill_tuple_mul F.fills_int_mul F.slot_int_rmul repeat_tuple F.slot_int_index.lookup
      (call_meets F.slot_int_rmul (typeIs_int s 0 t) F.entry_int_rmul (F.args_int_rmul_2 _ _) (int_rmul_tuple 0 t l its.toArray n dd sl) ⟨ho, rfl, ⟨_, ho, rfl⟩, call_meets F.slot_tuple_mul ⟨_, ho, rfl⟩ F.entry_tuple_mul (F.args_tuple_mul_2 _ _) (mul_none l its.toArray n dd sl t hi) ⟨ho, ?_⟩⟩)
    exact ⟨.ref s.heap.objs.size, _, I.laid (t' := s.toks) (o := .tup []) (fun b ob q => Heap.get?_push_of_some _ q) (Nat.le_refl _) ⟨Nat.zero_le _, [], .nil, IsTup.new _ _⟩, rfl, q2 (by decide) _ (I.hok.fresh (Nat.le_refl _))⟩
  · refine wpAny_binaryOp_repeat_ref (T := "tuple") (U := "int") (by decide) ⟨_, ho, rfl⟩ (fun s' => typeIs_int s' 1 t) noFill_tuple_mul F.fills_int_mul F.slot_int_rmul repeat_tuple F.slot_int_index.lookup
      (call_meets F.slot_int_rmul (typeIs_int s 1 t) F.entry_int_rmul (F.args_int_rmul_2 _ _) (int_rmul_tuple 1 t l its.toArray n dd sl) ⟨ho, rfl, ⟨_, ho, rfl⟩, call_meets F.slot_tuple_mul ⟨_, ho, rfl⟩ F.entry_tuple_mul (F.args_tuple_mul_2 _ _) (mul_once l its.toArray n dd sl t) ⟨ho, ?_⟩⟩)
    exact ⟨.ref l, H, I, rfl, q1 rfl⟩
theorem repL_rep {K : PySem.W.Frag} {O : Addr → Prop} {H : Hp} {ds : List D} {vs : List V} (l : RepL K O H ds vs) : ∀ n : Nat, RepL K O H (List.replicate n ds).flatten (List.replicate n vs).flatten
  | 0 => rfl
  | n + 1 => by
    rw [List.replicate_succ, List.replicate_succ, List.flatten_cons, List.flatten_cons]
    exact l.append (repL_rep l n)
theorem os_rep {K : PySem.W.Frag} : OpS K (rRepA K) gRep := fun O H x y d1 d2 d Q dm r1 r2 e q => by
  unfold gRep at e
  split at e
  · rename_i as k
    split at e
    · rename_i h
      cases e
      obtain ⟨a, us, rfl, t1, l1⟩ := r1
      refine ⟨a, k, us, rfl, r2, t1.sq, fun z => h.1 (List.eq_nil_of_length_eq_zero (by rw [← l1.length, z]; rfl)), h.2.1, h.2.2.1, by rw [l1.length]; exact h.2.2.2, fun k1 => ?_, fun _ p hp => ?_⟩
      · subst k1
        refine q _ _ (fun _ _ h => h) ⟨a, us, rfl, t1, ?_⟩
        have : (List.replicate (1 : Int).toNat as).flatten = as := by simp
        rw [this]
        exact l1
      · exact q _ _ (same_upd hp) (rep_tup dm (repL_rep l1 _) hp)
    · cases e
  · cases e
theorem rs_nev {X : Cx} {C : Cc} {st : Stmt} : PS X st (tS C badM) := ⟨fun pins s σ H D I ⟨ε, F, P, R, h⟩ => h.elim⟩
/-! ### slices -/
theorem RepL.drop {K : PySem.W.Frag} {O : Addr → Prop} {H : Hp} : ∀ (n : Nat) {ds : List D} {vs : List V}, RepL K O H ds vs → RepL K O H (ds.drop n) (vs.drop n)
  | 0, _, _, h => h
  | n + 1, [], _, h => by cases h; simp; rfl
  | n + 1, d :: ds, _, h => by
    obtain ⟨v, r, rfl, _, h2⟩ := h
    exact RepL.drop n h2
theorem RepL.take {K : PySem.W.Frag} {O : Addr → Prop} {H : Hp} : ∀ (n : Nat) {ds : List D} {vs : List V}, RepL K O H ds vs → RepL K O H (ds.take n) (vs.take n)
  | 0, _, _, h => by simp; rfl
  | n + 1, [], _, h => by cases h; simp; rfl
  | n + 1, d :: ds, _, h => by
    obtain ⟨v, r, rfl, h1, h2⟩ := h
    exact ⟨v, r.take n, rfl, h1, RepL.take n h2⟩
theorem RepL.cut {K : PySem.W.Frag} {O : Addr → Prop} {H : Hp} {ds : List D} {vs : List V} (h : RepL K O H ds vs) (lo hi : Option Int) : RepL K O H (Cr.cutD ds lo hi) (L2.cutV vs lo hi) := by
  unfold Cr.cutD L2.cutV
  have e : ∀ (n d : Nat) (o : Option Int), HT.sIx n d o = Cr.sIx n d o := fun n d o => by
    unfold HT.sIx Cr.sIx
    cases o <;> rfl
  rw [h.length, e, e]
  exact RepL.take _ (RepL.drop _ h)
def tPO (C : Cc) : Option (M D) → TO
  | none => tNoPart
  | some m => tPart (tE C m)
theorem tPO.imp {C : Cc} {m : Option (M D)} {σ : L2.St} {H : Hp} {Q Q' : Option Int → Hp → Prop} (h : tPO C m σ H Q) (i : ∀ o H', Q o H' → Q' o H') : tPO C m σ H Q' := by
  cases m with
  | none => exact i _ _ h
  | some m => exact tE.imp h fun v H1 ⟨k, e, q⟩ => ⟨k, e, i _ _ q⟩
section
variable {X : Cx} {C : Cc} {σ : L2.St} {H : Hp} {F : Fp} {P : Addr → Prop} {ε : Sl} {β : Type}
theorem gP_bd {m : Option (M D)} {f : Option Int → M β} {Φ : Hp → Fp → Out β → Prop} (S : Stp C σ P Φ) (R : RepE C.K C.G H σ ε F P) (h : Φ H F (Cr.bd (sl1 m) f ε)) :
    tPO C m σ H fun o H1 => ∃ ε1 F1, RepE C.K C.G H1 σ ε1 F1 P ∧ Fr F H F1 H1 ∧ Φ H1 F1 (f o ε1) := by
  cases m with
  | none => exact ⟨ε, F, R, Fr.refl, h⟩
  | some m =>
    refine tE.imp (gE_bd (m := m) (f := fun d => Cr.bd (match d with | .int i => pu (some i) | _ => badM) f) S R (by
      have e : Cr.bd (sl1 (some m)) f ε = Cr.bd m (fun d => Cr.bd (match d with | .int i => pu (some i) | _ => badM) f) ε := by
        unfold sl1 Cr.bd
        cases e : m ε with
        | ok a e1 => simp only [e] <;> (cases a <;> rfl)
        | exn c e1 => simp only [e]
        | bad => simp only [e]
      rw [← e]
      exact h)) fun v H1 ⟨d, ε1, F1, R1, y1, r1, h1⟩ => ?_
    cases d with
    | int i => exact ⟨i, r1, ε1, F1, R1, y1, h1⟩
    | _ => exact (S.bad _ _ h1).elim
theorem sl_fin {K : PySem.W.Frag} {O : Addr → Prop} {d1 d : D} {x : V} {lo hi : Option Int} {Q : VK} (dm : ∀ a, O a → H a ≠ none) (r : RepW K O H d1 x) (e : gSl d1 lo hi = some d) (q : ∀ v H', (∀ a u, H a = some u → H' a = some u) → Rep K O H' d v → Q v H') :
    rSlA K x lo hi H Q ∨ rSlL K x lo hi H Q := by
  unfold gSl at e
  split at e
  · rename_i as
    cases e
    obtain ⟨a, vs, rfl, t, l⟩ := r
    refine .inl ⟨a, vs, rfl, t.sq, fun w => ?_, fun w p hp => q _ _ (same_upd hp) (rep_tup dm (l.cut lo hi) hp)⟩
    have c := l.cut lo hi
    have ev : L2.cutV vs lo hi = vs := by unfold L2.cutV; rw [w.1, w.2]; simp
    rw [ev] at c
    exact q _ _ (fun _ _ h => h) ⟨a, vs, rfl, t, c⟩
  · rename_i as
    cases e
    obtain ⟨a, vs, rfl, t, l⟩ := r
    exact .inr ⟨a, vs, rfl, t, fun p hp => q _ _ (same_upd hp) (rep_lst dm (l.cut lo hi) hp)⟩
  · cases e
theorem sl_run {o : Opd} {lo hi : Option (M D)} {Q : VK} (h : tE C (slE o lo hi) σ H Q) : tSl (fun x l u H Q => rSlA C.K x l u H Q ∨ rSlL C.K x l u H Q) (tO C o) (tPO C lo) (tPO C hi) σ H Q := by
  obtain ⟨ε, F, P, R, h⟩ := h
  cases o with
  | d m =>
    refine tE.imp (tE_bd R h) fun x H1 ⟨d, ε1, F1, R1, y1, r1, h1⟩ => ?_
    refine tPO.imp (gP_bd Okk.stp R1 h1) fun l H2 ⟨ε2, F2, R2, y2, h2⟩ => ?_
    refine tPO.imp (gP_bd Okk.stp R2 h2) fun u H3 ⟨ε3, F3, R3, y3, h3⟩ => ?_
    obtain ⟨dd, e, q⟩ := fin R3 h3
    exact sl_fin R3.dom ((y2.trans y3).rep r1).w e q
  | o i =>
    obtain ⟨d0, e0, h0⟩ := h.bd.rd
    obtain ⟨v0, hv0, r0⟩ := R.val i d0 e0
    refine ⟨v0, hv0, ?_⟩
    refine tPO.imp (gP_bd Okk.stp R (h0 _ _ R Fr.refl)) fun l H2 ⟨ε2, F2, R2, y2, h2⟩ => ?_
    refine tPO.imp (gP_bd Okk.stp R2 h2) fun u H3 ⟨ε3, F3, R3, y3, h3⟩ => ?_
    obtain ⟨d1, e1, h4⟩ := h3.bd.rd
    obtain ⟨dd, e, q⟩ := fin R3 (h4 _ _ R3 Fr.refl)
    exact sl_fin R3.dom (R3.slot e1 hv0) e q
theorem re_sl {a : Expr} {o : Opd} {lo hi : Option Expr} {lm hm : Option (M D)} {pos p2 : Pos} (hX : X.K = C.K) (ha : PE X a (tO C o)) (hl : PO X lo (tPO C lm)) (hh : PO X hi (tPO C hm)) : PE X (.Subscript a (.Slice lo hi none p2) pos) (tE C (slE o lm hm)) :=
  PE.mono (pe_slice (sl_tupA.or sl_list) ha hl hh) fun σ H Q h => by rw [hX]; exact sl_run h
theorem ro_non : PO X none (tPO C none) := po_none
theorem ro_som {e : Expr} {m : M D} (h : PE X e (tE C m)) : PO X (some e) (tPO C (some m)) := po_some h
end
/-! ### tuple(range(n)) -/
theorem re_tupR1 {X : Cx} {C : Cc} {a : Expr} {o : Opd} {p p2 pos pos2 : Pos} (hc : X.calm = true) (hg : Gl X "tuple") (hm : X.mg "tuple" = none) (hg2 : Gl X "range") (hm2 : X.mg "range" = none) (ha : PE X a (tO C o)) (na : starEach [a] X.env = (false, eval a X.env) :: starEach [] X.env := by rfl)
    (nb : starEach [.Call (.Name "range" p2) [a] [] pos2] X.env = (false, eval (.Call (.Name "range" p2) [a] [] pos2) X.env) :: starEach [] X.env := by rfl) :
    PE X (.Call (.Name "tuple" p) [.Call (.Name "range" p2) [a] [] pos2] [] pos) (tE C (callB bTupR1 [o])) := by
  refine PE.mono (pe_tupRg hc hg hm (prg_1 hg2 hm2 ha na) nb) fun σ H Q h => ?_
  have h' : tAs C [o] σ H (fun vs H1 => ∃ n, vs = [.int n] ∧ RgOk 0 n ∧ ∀ q, H1 q = none → Q (.ref q) (upd H1 q (.tup (rgV 0 n)))) := by
    obtain ⟨ε, F, P, R, h⟩ := h
    refine tAs.imp _ (gopds Okk.stp R h) fun vs H1 ⟨ds, ε1, F1, R1, y1, A, h1⟩ => ?_
    obtain ⟨d, e, q⟩ := fin R1 h1
    have w := A.wl R1
    unfold bTupR1 at e
    split at e
    · rename_i n
      split at e
      · rename_i hn
        cases e
        cases w with
        | cons r1 w =>
          cases w
          refine ⟨n, by rw [show _ = V.int n from r1], ⟨by omega, by omega, by omega, by omega, by omega⟩, fun z hz => q _ _ (same_upd hz) (rep_tup R1.dom ?_ hz)⟩
          have e : rgV 0 n = ((List.range n.toNat).map fun (i : Nat) => (0 + (i : Int))).map V.int := by unfold rgV; simp
          have e2 : rangeD 0 n.toNat = ((List.range n.toNat).map fun (i : Nat) => (0 + (i : Int))).map D.int := by unfold rangeD; simp
          rw [e, e2]
          exact ints_back _
      · cases e
    · cases e
  exact tO.imp h' fun x H1 ⟨n, e, ok, q⟩ => ⟨n, by injection e, ok, q⟩
end Lk

end
section
set_option maxRecDepth 100000
set_option maxHeartbeats 4000000
/-! Lk17: list + list. -/
namespace Lk
open PySem PySem.Spec PyProof.Rows L2 Cr
def rCatS (K : PySem.W.Frag) : R2 := fun x y H Q => ∃ l b xs zs, x = .ref l ∧ y = .ref b ∧ SqL K H l xs ∧ SqL K H b zs ∧ xs.length + zs.length ≤ sizeLine ∧ ∀ p, H p = none → Q (.ref p) (upd H p (.lst (xs ++ zs)))
theorem op_catS {X : Cx} : OpR X (binaryOp .Add) (rCatS X.K) := by
  intro pins s σ H x y v u Q I rx ry ⟨l, b, xs, zs, e1, e2, hl, hb, hz, q⟩
  subst e1 e2
  cases rx
  cases ry
  obtain ⟨its, r1, ⟨⟨c1, d1, data1, sl1⟩, n1, ho1, hc1, hdn1, hd1⟩, hz1⟩ := I.list hl
  obtain ⟨its2, r2, ⟨⟨c2, d2, data2, sl2⟩, n2, ho2, hc2, hdn2, hd2⟩, hz2⟩ := I.list hb
  simp only at hc1 hd1 hdn1 hc2 hd2 hdn2
  subst hc1 hd1 hc2 hd2
  have l1 := r1.length
  have l2 := r2.length
  refine concat_meets ⟨_, ho1, rfl⟩ ⟨_, ho2, rfl⟩ noFill_list_add seq_list_add PySem.F.slot_list_add PySem.F.entry_list_add (PySem.F.args_list_add_2 _ _)
    (list_addW l b its.toArray its2.toArray n1 n2 d1 d2 sl1 sl2 (by rw [List.size_toArray, List.size_toArray]; omega)) ⟨ho1, ho2, ?_⟩
  have ea : its.toArray ++ its2.toArray = (its ++ its2).toArray := by simp
  rw [ea]
  exact ⟨.ref _, _, I.lnew (t' := s.toks) (r1.append r2) (by rw [List.length_append]; omega), rfl, q _ I.fresh⟩
theorem os_catL {K : PySem.W.Frag} : OpS K (rCatS K) gAddL := fun O H x y d1 d2 d Q dm r1 r2 e q => by
  unfold gAddL at e
  split at e
  · rename_i as bs
    split at e
    · rename_i h
      cases e
      obtain ⟨a, us, rfl, t1, l1⟩ := r1
      obtain ⟨b, ws, rfl, t2, l2⟩ := r2
      exact ⟨a, b, us, ws, rfl, rfl, t1, t2, by rw [l1.length, l2.length]; exact szl h, fun p hp => q _ _ (same_upd hp) (rep_lst dm (l1.append l2) hp)⟩
    · cases e
  · cases e
/-! ### t <= u -/
theorem lexAt_up (e r : Nat → Bool) (z : Bool) : ∀ k i, Ob.lexAt (fun j => e (j + 1)) (fun j => r (j + 1)) z i k = Ob.lexAt e r z (i + 1) k
  | 0, i => rfl
  | k + 1, i => by rw [Ob.lexAt_succ, Ob.lexAt_succ, lexAt_up e r z k (i + 1)]
theorem lexLe_eq : ∀ a b : List Int, Ob.lexAt (fun j => decide (a.getD j 0 = b.getD j 0)) (fun j => decide (a.getD j 0 ≤ b.getD j 0)) (decide (a.length ≤ b.length)) 0 (min a.length b.length) = Cr.lexLe a b
  | [], b => by simp [Cr.lexLe, Ob.lexAt_zero]
  | x :: xs, [] => by simp [Cr.lexLe, Ob.lexAt_zero]
  | x :: xs, y :: ys => by
    have ih := lexLe_eq xs ys
    have hm : min (x :: xs).length (y :: ys).length = min xs.length ys.length + 1 := by simp only [List.length_cons]; omega
    have hz : decide ((x :: xs).length ≤ (y :: ys).length) = decide (xs.length ≤ ys.length) := by simp
    rw [hm, Ob.lexAt_succ, hz, ← lexAt_up]
    simp only [List.getD_cons_succ, List.getD_cons_zero]
    rw [ih]
    unfold Cr.lexLe
    by_cases e : x = y
    · simp [e]; cases xs <;> cases ys <;> rfl
    · have : decide (x ≤ y) = decide (x < y) := by
        rw [decide_eq_decide]; omega
      simp [e, this]
theorem os_leT {K : PySem.W.Frag} : OpS K (rLeT K) gLeT := fun O H x y d1 d2 d Q dm r1 r2 e q => by
  unfold gLeT at e
  split at e
  · rename_i as bs
    split at e
    · rename_i ns ms h1 h2
      cases e
      obtain ⟨a, us, rfl, t1, l1⟩ := r1
      obtain ⟨b, ws, rfl, t2, l2⟩ := r2
      have e1 := intsD_rep h1 l1
      have e2 := intsD_rep h2 l2
      subst e1 e2
      refine ⟨a, b, ns, ms, rfl, rfl, t1.sq, t2.sq, ?_⟩
      rw [lexLe_eq]
      exact q _ _ (fun _ _ h => h) rfl
    · cases e
  · cases e
end Lk

end
section
set_option maxRecDepth 100000
set_option maxHeartbeats 4000000
/-! Lk18: sorted(xs), xs a list of pairs of ints. -/
namespace Lk
open PySem PySem.Spec PyProof.Rows L2 Cr
/-- x is the pair q -/
def PrV (K : PySem.W.Frag) (H : Hp) (x : V) (q : Int × Int) : Prop := ∃ t, x = .ref t ∧ SqT K H t [.int q.1, .int q.2]
def rSortPS (K : PySem.W.Frag) : List V → Hp → VK → Prop := fun vs H Q => ∃ (a : Addr) (xs : List V) (ps : List (Int × Int)), vs = [V.ref a] ∧ SqL K H a xs ∧ xs.length = ps.length ∧ (∀ (i : Nat) x q, xs[i]? = some x → ps[i]? = some q → PrV K H x q) ∧
  ∀ ys p, ys.length = ps.length → (∀ (i : Nat) y q, ys[i]? = some y → (psort ps)[i]? = some q → ∃ j : Nat, xs[j]? = some y ∧ ps[j]? = some q) → H p = none → Q (.ref p) (upd H p (.lst ys))
/-- the pair that a heap holds at a value -/
def rdPr (h : Heap) : Value → Int × Int
  | .ref t => (match h.get? t with
    | some o => (match o.data with
      | .seq its _ => (match its.toList with
        | [.int i _, .int j _] => (i, j)
        | _ => (0, 0))
      | _ => (0, 0))
    | none => (0, 0))
  | _ => (0, 0)
theorem prLt_lex : prLt = SrtO.lexB := by funext p q; rfl
section
variable {X : Cx}
theorem prV_heap {pins : List (Addr × Obj)} {σ : L2.St} {H : Hp} {s : Shared} {x : V} {u : Value} {q : Int × Int} (I : L2.Inv X pins σ H s) (r : RelV x u) (p : PrV X.K H x q) : rdPr s.heap u = q ∧ Srt.IsPair s.heap u q.1 q.2 ∧ ∃ t, u = .ref t := by
  obtain ⟨t, rfl, ht⟩ := p
  obtain rfl : u = Value.ref t := r
  obtain ⟨its, r2, ⟨o, ho, hc, n, hd⟩, _⟩ := I.tuple ht
  obtain ⟨u1, u2, rfl, ri, rj⟩ := vals2 r2
  obtain ⟨t1, rfl⟩ := ri
  obtain ⟨t2, rfl⟩ := rj
  refine ⟨?_, ⟨t, o, t1, t2, n, rfl, ho, hc, hd⟩, t, rfl⟩
  unfold rdPr
  simp only [ho, hd]
theorem cr_sortPS : CallR X (.builtin "sorted") (rSortPS X.K) := by
  intro pins s σ H vs us Q I r ⟨a, xs, ps, e, hs, hl, hx, q⟩
  subst e
  obtain ⟨its, rv, pl, hz⟩ := I.list hs
  obtain ⟨u, rfl, ru⟩ := vals1 r
  obtain rfl : u = Value.ref a := ru
  have len : its.length = xs.length := rv.length.symm
  -- item by item
  have at_ : ∀ (i : Nat) v, its[i]? = some v → ∃ x p, xs[i]? = some x ∧ ps[i]? = some p ∧ RelV x v ∧ PrV X.K H x p := fun i v hv => by
    have hi : i < its.length := (List.getElem?_eq_some_iff.mp hv).1
    obtain ⟨w, hw, rw⟩ := rv.get (List.getElem?_eq_getElem (show i < xs.length by omega))
    rw [hv] at hw
    cases hw
    exact ⟨_, _, List.getElem?_eq_getElem (show i < xs.length by omega), List.getElem?_eq_getElem (show i < ps.length by omega), rw, hx i _ _ (List.getElem?_eq_getElem (by omega)) (List.getElem?_eq_getElem (by omega))⟩
  have mem_ : ∀ v ∈ its, ∃ x p i, xs[i]? = some x ∧ ps[i]? = some p ∧ RelV x v ∧ PrV X.K H x p := fun v hv => by
    obtain ⟨i, hi⟩ := List.mem_iff_getElem?.mp hv
    obtain ⟨x, p, h1, h2, h3, h4⟩ := at_ i v hi
    exact ⟨x, p, i, h1, h2, h3, h4⟩
  have hps : its.map (rdPr s.heap) = ps := by
    apply List.ext_getElem?
    intro i
    rw [List.getElem?_map]
    by_cases hi : i < its.length
    · obtain ⟨x, p, h1, h2, h3, h4⟩ := at_ i _ (List.getElem?_eq_getElem hi)
      rw [List.getElem?_eq_getElem hi, h2]
      exact congrArg some (prV_heap I h3 h4).1
    · rw [List.getElem?_eq_none (by omega), List.getElem?_eq_none (by omega)]
      rfl
  refine SrtO.sorted_pairsO (k := rdPr s.heap) pl.isList (by rw [len]; exact hz) (fun v hv => ?_) fun h' d out h1 h2 kp hd hn => ?_
  · obtain ⟨x, p, i, _, _, h3, h4⟩ := mem_ v hv
    obtain ⟨z1, z2, _⟩ := prV_heap I h3 h4
    rw [z1]
    exact z2
  · obtain ⟨n, hn⟩ := hn
    have hsub : ∀ u ∈ out, u ∈ its := fun u hu => h2.perm.mem_iff.mp hu
    have href : ∀ u ∈ out, ∃ t, u = Value.ref t := fun u hu => by
      obtain ⟨x, p, i, _, _, h3, h4⟩ := mem_ u (hsub u hu)
      exact (prV_heap I h3 h4).2.2
    have hlen : out.length = ps.length := by rw [h2.perm.length_eq, len, hl]
    have hq : out.map (rdPr s.heap) = psort ps := by
      refine prLe_eq ?_ ?_ (psort_pw ps)
      · refine (h2.perm.map _).trans ?_
        rw [hps]
        exact (psort_perm ps).symm
      · rw [List.pairwise_map]
        refine List.Pairwise.imp ?_ h1
        intro x y hxy
        unfold PrLe
        rw [prLt_lex]
        exact hxy
    refine ⟨.ref d, upd H d (.lst (out.map backV)), I.laid (t' := s.toks) kp hd ⟨?_, out, n, vals_back href, hn⟩, rfl, q _ d (by rw [List.length_map, hlen]) (fun i y p hy hp => ?_) (I.hok.fresh hd)⟩
    · rw [List.length_map, hlen, ← hl]; exact hz
    · rw [List.getElem?_map] at hy
      rw [← hq, List.getElem?_map] at hp
      cases ho : out[i]? with
      | none => rw [ho] at hy; cases hy
      | some u =>
        rw [ho] at hy hp
        cases hy
        cases hp
        obtain ⟨x, p, j, g1, g2, g3, g4⟩ := mem_ u (hsub u (List.mem_of_getElem? ho))
        obtain ⟨z1, _, t, z3⟩ := prV_heap I g3 g4
        obtain ⟨t', e', _⟩ := g4
        subst e' z3
        obtain rfl : t = t' := by injection (show Value.ref t = Value.ref t' from g3)
        exact ⟨j, g1, by rw [z1]; exact g2⟩
end
theorem RepL.mk {K : PySem.W.Frag} {O : Addr → Prop} {H : Hp} : ∀ {ds : List D} {vs : List V}, ds.length = vs.length → (∀ (i : Nat) d v, ds[i]? = some d → vs[i]? = some v → Rep K O H d v) → RepL K O H ds vs
  | [], [], _, _ => rfl
  | [], _ :: _, h, _ => by simp at h
  | _ :: _, [], h, _ => by simp at h
  | d :: ds, v :: vs, h, f => ⟨v, vs, rfl, f 0 d v rfl rfl, RepL.mk (by simpa using h) fun i d' v' h1 h2 => f (i + 1) d' v' (by simpa using h1) (by simpa using h2)⟩
theorem cn_sortP {K : PySem.W.Frag} : CallN K (rSortPS K) bSortP := fun O H vs ds d Q dm r e q => by
  unfold bSortP at e
  split at e
  · rename_i xs
    cases h : prsD xs with
    | none => rw [h] at e; cases e
    | some ps =>
      rw [h] at e
      cases e
      obtain ⟨v, rfl, a, us, rfl, t, l⟩ := wl1 r
      have hx := prsD_get h
      have lu : us.length = ps.length := by rw [l.length, hx, List.length_map]
      have rep : ∀ (i : Nat) x p, us[i]? = some x → ps[i]? = some p → Rep K O H (prD p) x := fun i x p h1 h2 => by
        obtain ⟨w, hw, rw⟩ := l.get (i := i) (d := prD p) (by rw [hx, List.getElem?_map, h2]; rfl)
        rw [h1] at hw
        cases hw
        exact rw
      refine ⟨a, us, ps, rfl, t, lu, fun i x p h1 h2 => ?_, fun ys p hl hy hn => q p _ _ rfl hn (RepL.mk ?_ fun i d v h1 h2 => ?_)⟩
      · obtain ⟨b, ws, rfl, tt, ll⟩ := rep i x p h1 h2
        obtain ⟨v1, r1, rfl, e1, l1⟩ := ll
        obtain ⟨v2, r2, rfl, e2, l2⟩ := l1
        cases l2
        have e1 : v1 = .int p.1 := e1
        have e2 : v2 = .int p.2 := e2
        subst e1 e2
        exact ⟨b, rfl, tt.sq⟩
      · rw [List.length_map, (psort_perm ps).length_eq, hl]
      · rw [List.getElem?_map] at h1
        cases hp : (psort ps)[i]? with
        | none => rw [hp] at h1; cases h1
        | some pp =>
          rw [hp] at h1
          cases h1
          obtain ⟨j, g1, g2⟩ := hy i v pp h2 hp
          exact rep j v pp g1 g2
  · cases e
end Lk

end
section
set_option maxRecDepth 100000
set_option maxHeartbeats 4000000
/-! Lk19: an operator that makes a new list. -/
namespace Lk
open PySem PySem.Spec PyProof.Rows L2 Cr
def OpN (K : PySem.W.Frag) (r : R2) (g : D → D → Option D) : Prop := ∀ (O : Addr → Prop) (H : Hp) (x y : V) (d1 d2 d : D) (Q : VK), (∀ a, O a → H a ≠ none) → RepW K O H d1 x → RepW K O H d2 y → g d1 d2 = some d →
  (∀ p xs ws, d = .lst xs → H p = none → RepL K O H xs ws → Q (.ref p) (upd H p (.lst ws))) → r x y H Q
section
variable {X : Cx} {C : Cc} {a b : Expr} {pos : Pos} {r : R2} {g : D → D → Option D} {oa ob : Opd} {σ : L2.St} {H : Hp}
theorem twoF {Q : VK} (h : tF C .ol (bin g oa ob) σ H Q) :
    tO C oa σ H fun x H1 => tO C ob σ H1 fun y H2 => ∃ (O : Addr → Prop) (d1 d2 d : D), (∀ a, O a → H2 a ≠ none) ∧ RepW C.K O H2 d1 x ∧ RepW C.K O H2 d2 y ∧ g d1 d2 = some d ∧
      ∀ p xs ws, d = .lst xs → H2 p = none → RepL C.K O H2 xs ws → Q (.ref p) (upd H2 p (.lst ws)) := by
  obtain ⟨ε, F, P, R, h⟩ := h
  have S : Stp C σ P (OkF C .ol σ Q P) := OkF.stp
  cases oa with
  | d ma =>
    cases ob with
    | d mb =>
      refine tE.imp (gE_bd S R h) fun x H1 ⟨d1, ε1, F1, R1, y1, r1, h1⟩ => ?_
      refine tE.imp (gE_bd S R1 h1) fun y H2 ⟨d2, ε2, F2, R2, y2, r2, h2⟩ => ?_
      obtain ⟨d, ed, q⟩ := OkF.opt h2
      exact ⟨Own F2 P, d1, d2, d, R2.dom, (y2.rep r1).w, r2.w, ed, fun p xs ws e hp l => finF R2 q e l hp⟩
    | o j =>
      refine tE.imp (gE_bd S R h) fun x H1 ⟨d1, ε1, F1, R1, y1, r1, h1⟩ => ?_
      obtain ⟨d2, e2, h2⟩ := (S.bd h1).rd
      obtain ⟨v2, hv2, r2⟩ := R1.val j d2 e2
      obtain ⟨d, ed, q⟩ := OkF.opt (h2 _ _ R1 Fr.refl)
      exact ⟨v2, hv2, Own F1 P, d1, d2, d, R1.dom, r1.w, r2.w, ed, fun p xs ws e hp l => finF R1 q e l hp⟩
  | o i =>
    cases ob with
    | d mb =>
      obtain ⟨d0, e0, h0⟩ := (S.bd h).rd
      obtain ⟨v0, hv0, r0⟩ := R.val i d0 e0
      refine ⟨v0, hv0, tE.imp (gE_bd S R (h0 _ _ R Fr.refl)) fun y H2 ⟨d2, ε2, F2, R2, y2, r2, h2⟩ => ?_⟩
      obtain ⟨d1, e1, h3⟩ := (S.bd h2).rd
      obtain ⟨d, ed, q⟩ := OkF.opt (h3 _ _ R2 Fr.refl)
      exact ⟨Own F2 P, d1, d2, d, R2.dom, R2.slot e1 hv0, r2.w, ed, fun p xs ws e hp l => finF R2 q e l hp⟩
    | o j =>
      obtain ⟨d1, e1, h1⟩ := (S.bd h).rd
      obtain ⟨v1, hv1, r1⟩ := R.val i d1 e1
      obtain ⟨d2, e2, h2⟩ := (S.bd (h1 _ _ R Fr.refl)).rd
      obtain ⟨v2, hv2, r2⟩ := R.val j d2 e2
      obtain ⟨d, ed, q⟩ := OkF.opt (h2 _ _ R Fr.refl)
      exact ⟨v1, hv1, v2, hv2, Own F P, d1, d2, d, R.dom, r1.w, r2.w, ed, fun p xs ws e hp l => finF R q e l hp⟩
theorem opN_run (hs : OpN C.K r g) {Q : VK} (h : tF C .ol (bin g oa ob) σ H Q) : tOp r (tO C oa) (tO C ob) σ H Q :=
  tO.imp (twoF h) fun x H1 q => tO.imp q fun y H2 ⟨O, d1, d2, d, dm, r1, r2, e, q⟩ => hs O H2 x y d1 d2 d Q dm r1 r2 e q
theorem rf_bin {op : Operator} (ho : OpR X (binaryOp op) r) (hs : OpN C.K r g) (ha : PE X a (tO C oa)) (hb : PE X b (tO C ob)) : PE X (.BinOp a op b pos) (tF C .ol (bin g oa ob)) :=
  PE.mono (pe_op ho ha hb) fun σ H Q h => opN_run hs h
theorem on_catL {K : PySem.W.Frag} : OpN K (rCatS K) gAddL := fun O H x y d1 d2 d Q dm r1 r2 e q => by
  unfold gAddL at e
  split at e
  · rename_i as bs
    split at e
    · rename_i h
      cases e
      obtain ⟨a, us, rfl, t1, l1⟩ := r1
      obtain ⟨b, ws, rfl, t2, l2⟩ := r2
      exact ⟨a, b, us, ws, rfl, rfl, t1, t2, by rw [l1.length, l2.length]; exact szl h, fun p hp => q p _ _ rfl hp (l1.append l2)⟩
    · cases e
  · cases e
/-- a slot gives up its list: the list is data from now on -/
theorem mv_run {i : Nat} {Q : VK} (hmd : decide (C.G i = .oll) = false) (h : tE C (mv i) σ H Q) : tVar i σ H Q := by
  obtain ⟨ε, F, P, R, h⟩ := h
  obtain ⟨d, e, h1⟩ := (Okk.stp.bd h).rd
  have h2 := h1 _ _ R Fr.refl
  obtain ⟨v, hv, r⟩ := R.val i d e
  obtain ⟨R1, r1⟩ := R.letgo e hv
  have y : Fr F H (Fset F i []) H := ⟨fun _ _ h _ => h, fun j a z => by
    by_cases ej : j = i
    · subst ej; rw [Fset_same] at z; cases z
    · rw [Fset_ne ej] at z; exact .inl ⟨j, z⟩, fun _ h => h⟩
  refine ⟨v, hv, h2 H (Fset F i []) (R1.weakP fun a z => .inl z) y v (RepM.toDat (F := Fset F i []) (P := P) (of_decide_eq_false hmd) r1 fun a ha z => ?_)⟩
  rcases z with z | ⟨j, z⟩
  · exact R.out i a ha z
  · by_cases ej : j = i
    · subst ej; rw [Fset_same] at z; cases z
    · rw [Fset_ne ej] at z; exact ej (R.sep j i a z ha)
theorem re_mv {i : Nat} (h : PE X a (tVar i)) (hmd : decide (C.G i = .oll) = false := by rfl) : PE X a (tE C (mv i)) := PE.mono h fun σ H Q h => mv_run hmd h
end
end Lk

end
section
set_option maxRecDepth 100000
set_option maxHeartbeats 4000000
/-! Lk20: comprehensions of any kind, of one clause or two: a turn's last act (the emission) is a letter. -/
namespace Lk
open PySem PySem.Spec PyProof.Rows L2 Cr
/-- one turn of a clause -/
def clTurn (e : Expr) (k : Nat) (t i : Expr) (ifs : List Expr) (em : Sem Fin → Sem Fin) (it acc : Value) (env : Env) : Sem Fin := do
  standAt i.pos
  match ← pyNext it with
  | none => pure (.done .next)
  | some v =>
    letOwnedTupleGo t it v
    assign t env v
    let mut ok := true
    for c in ifs do
      if ok then ok ← isTrue c env (eval c env)
    if ok then em (again (.compLoop e k it acc env)) else again (.compLoop e k it acc env)
/-- the emission of a dict's innermost clause -/
def emD (kx vx : Expr) (d : Addr) (env : Env) (K : Sem Fin) : Sem Fin := do
  (do
    let kv ← eval kx env
    let vv ← holding [kv] (eval vx env)
    standAt { kx.pos with endLine := vx.pos.endLine, endCol := vx.pos.endCol }
    holding [kv, vv] (dictSet d kv vv))
  K
/-- the emission of a set's innermost clause -/
def emS (elt : Expr) (acc : Value) (env : Env) (K : Sem Fin) : Sem Fin := do
  (do
    let v ← eval elt env
    standAt elt.pos
    let _ ← call (.builtin "set.add") [acc, v])
  K
/-- the emission of a clause that has another one behind it -/
def emN (e : Expr) (i1 : Expr) (acc : Value) (env : Env) (K : Sem Fin) : Sem Fin := do
  let x ← eval i1 env
  standAt i1.pos
  let x ← foldedSetIterable i1 env x
  let _ ← runOwn (.compStart e 1 (← holding [x] (pyIter x)) acc env) env
  K
section
variable (kx vx elt t0 i0 t1 i1 : Expr) (ifs0 ifs1 : List Expr) (scope : Scope) (pos : Pos) (it acc : Value) (D : Addr) (env : Env)
theorem turn_D1 : compTurn (.DictComp kx vx [⟨t0, i0, ifs0, 0⟩] scope pos) 0 it (.ref D) env = clTurn (.DictComp kx vx [⟨t0, i0, ifs0, 0⟩] scope pos) 0 t0 i0 ifs0 (emD kx vx D env) it (.ref D) env := by rfl
theorem turn_D2o : compTurn (.DictComp kx vx [⟨t0, i0, ifs0, 0⟩, ⟨t1, i1, ifs1, 0⟩] scope pos) 0 it acc env = clTurn (.DictComp kx vx [⟨t0, i0, ifs0, 0⟩, ⟨t1, i1, ifs1, 0⟩] scope pos) 0 t0 i0 ifs0 (emN (.DictComp kx vx [⟨t0, i0, ifs0, 0⟩, ⟨t1, i1, ifs1, 0⟩] scope pos) i1 acc env) it acc env := by rfl
theorem turn_D2i : compTurn (.DictComp kx vx [⟨t0, i0, ifs0, 0⟩, ⟨t1, i1, ifs1, 0⟩] scope pos) 1 it (.ref D) env = clTurn (.DictComp kx vx [⟨t0, i0, ifs0, 0⟩, ⟨t1, i1, ifs1, 0⟩] scope pos) 1 t1 i1 ifs1 (emD kx vx D env) it (.ref D) env := by rfl
theorem turn_S1 : compTurn (.SetComp elt [⟨t0, i0, ifs0, 0⟩] scope pos) 0 it acc env = clTurn (.SetComp elt [⟨t0, i0, ifs0, 0⟩] scope pos) 0 t0 i0 ifs0 (emS elt acc env) it acc env := by rfl
theorem turn_S2o : compTurn (.SetComp elt [⟨t0, i0, ifs0, 0⟩, ⟨t1, i1, ifs1, 0⟩] scope pos) 0 it acc env = clTurn (.SetComp elt [⟨t0, i0, ifs0, 0⟩, ⟨t1, i1, ifs1, 0⟩] scope pos) 0 t0 i0 ifs0 (emN (.SetComp elt [⟨t0, i0, ifs0, 0⟩, ⟨t1, i1, ifs1, 0⟩] scope pos) i1 acc env) it acc env := by rfl
theorem turn_S2i : compTurn (.SetComp elt [⟨t0, i0, ifs0, 0⟩, ⟨t1, i1, ifs1, 0⟩] scope pos) 1 it acc env = clTurn (.SetComp elt [⟨t0, i0, ifs0, 0⟩, ⟨t1, i1, ifs1, 0⟩] scope pos) 1 t1 i1 ifs1 (emS elt acc env) it acc env := by rfl
end
section
variable {prog : Program} {w : World} {A : Around} {R : Result → Shared → Prop} {s : Shared} {e t i : Expr} {ifs : List Expr} {k : Nat} {em : Sem Fin → Sem Fin} {it acc : Value} {env : Env}
/-- what an error means to the block -/
abbrev ErrB (prog : Program) (w : World) (A : Around) (env : Env) (R : Result → Shared → Prop) : Value → Shared → Prop := notedBy (model prog w) A env fun x s' => R (.error x) s'
/-- the emission ends in a state of Q, from which whatever follows goes on -/
def EmW (prog : Program) (w : World) (A : Around) (em : Sem Fin → Sem Fin) (Q : Shared → Prop) (E : Value → Shared → Prop) (s : Shared) : Prop := ∀ (K : Sem Fin) (Q' : Fin → Shared → Prop), (∀ s', Q s' → wpAny (model prog w) A K Q' E s') → wpAny (model prog w) A (em K) Q' E s
/-- clause k of e is t in i if ifs, its emission em -/
structure Cl (prog : Program) (w : World) (e : Expr) (k : Nat) (t i : Expr) (ifs : List Expr) (em : Sem Fin → Sem Fin) (acc : Value) (env : Env) : Prop where
  turn : ∀ it, compTurn e k it acc env = clTurn e k t i ifs em it acc env
  und : ∀ (A : Around) it, A.under (.compLoop e k it acc env) = A
  den : ∀ it, (model prog w).den (.compLoop e k it acc env) = (compTurn e k it acc env).onRaise fun x => do noteFrame x env; theTreesLotGoes x
  undS : ∀ (A : Around) it, A.under (.compStart e k it acc env) = A
  denS : ∀ it, (model prog w).den (.compStart e k it acc env) = (compStart e k it acc env).onRaise fun x => do noteFrame x env; standAt theWindowsPlace
  gen : ∃ g, (clausesOf e)[k]? = some g ∧ g.is_async = 0
/-- a clause's loop by an invariant over the turns that are left -/
theorem clLoop (c : Cl prog w e k t i ifs em acc env) (J : Nat → Shared → Prop)
    (turn : ∀ n s, J n s → wpAny (model prog w) A (pyNext it) (fun r s1 => match r with
      | none => R (.ok .next) s1
      | some v => wpAny (model prog w) A (letOwnedTupleGo t it v) (fun _ s2 => wpAny (model prog w) A (assign t env v) (fun _ s3 =>
          wpAny (model prog w) A (forIn ifs true fun c r => if r = true then do let ok ← isTrue c env (eval c env); pure (ForInStep.yield ok) else pure (ForInStep.yield r)) (fun ok s4 =>
            if ok = true then EmW prog w A em (fun s5 => ∃ m, m < n ∧ J m s5) (ErrB prog w A env R) s4 else ∃ m, m < n ∧ J m s4) (ErrB prog w A env R) s3) (ErrB prog w A env R) s2) (ErrB prog w A env R) s1) (ErrB prog w A env R) s)
    (n : Nat) (h : J n s) : codeAny (model prog w) A (.compLoop e k it acc env) R s := by
  refine codeAny_loop rfl J (fun n s hJ => ?_) n h
  rw [c.und, c.den]
  refine wpAny_noted ?_
  rw [c.turn it]
  unfold clTurn
  refine wpAny_bind (wpAny_standAt (wpAny_bind (wpAny_mono (turn n s hJ) (fun r s1 h1 => ?_) fun _ _ z => z)))
  cases r with
  | none => exact wpAny_pure h1
  | some v =>
    refine wpAny_bind (wpAny_mono h1 (fun _ s2 h2 => ?_) fun _ _ z => z)
    refine wpAny_bind (wpAny_mono h2 (fun _ s3 h3 => ?_) fun _ _ z => z)
    refine wpAny_bind (wpAny_mono h3 (fun ok s4 h4 => ?_) fun _ _ z => z)
    cases ok with
    | false => exact wpAny_pure ⟨rfl, h4⟩
    | true => exact h4 _ _ fun s5 h5 => wpAny_pure ⟨rfl, h5⟩
/-- a clause's start: its iterator may be asked for itself once more -/
theorem clStart (c : Cl prog w e k t i ifs em acc env) (h0 : codeAny (model prog w) A (.compLoop e k it acc env) R s)
    (h : wpAny (model prog w) A (pyIter it) (fun it' s' => codeAny (model prog w) A (.compLoop e k it' acc env) R s') (ErrB prog w A env R) s) : codeAny (model prog w) A (.compStart e k it acc env) R s := by
  obtain ⟨g, hg, ha⟩ := c.gen
  refine codeAny_of_tree ?_
  rw [c.undS, c.denS]
  refine wpAny_notedAt ?_
  unfold compStart
  rw [hg]
  simp only [Option.elim, ha, bne_self_eq_false, Bool.false_eq_true, if_false]
  refine wpAny_bind (wpAny_askSetting (wpAny_ite ?_))
  split
  · first
      | exact wpAny_pure (And.intro rfl h0)
      | exact wpAny_bind (wpAny_pure (wpAny_pure (And.intro rfl h0)))
  · refine wpAny_bind (wpAny_rule ?_)
    exact wpAny_bind (wpAny_standAt (wpAny_bind (wpAny_mono h (fun it' s' h' => wpAny_pure (And.intro rfl h')) fun _ _ x => x)))
end
section
variable {prog : Program} {w : World} (kx vx elt t0 i0 t1 i1 : Expr) (ifs0 ifs1 : List Expr) (scope : Scope) (pos : Pos) (acc : Value) (D : Addr) (env : Env)
theorem cl_D1 : Cl prog w (.DictComp kx vx [⟨t0, i0, ifs0, 0⟩] scope pos) 0 t0 i0 ifs0 (emD kx vx D env) (.ref D) env := ⟨fun it => turn_D1 .., fun _ _ => rfl, fun _ => rfl, fun _ _ => rfl, fun _ => rfl, _, rfl, rfl⟩
theorem cl_D2o : Cl prog w (.DictComp kx vx [⟨t0, i0, ifs0, 0⟩, ⟨t1, i1, ifs1, 0⟩] scope pos) 0 t0 i0 ifs0 (emN (.DictComp kx vx [⟨t0, i0, ifs0, 0⟩, ⟨t1, i1, ifs1, 0⟩] scope pos) i1 acc env) acc env := ⟨fun it => turn_D2o .., fun _ _ => rfl, fun _ => rfl, fun _ _ => rfl, fun _ => rfl, _, rfl, rfl⟩
theorem cl_D2i : Cl prog w (.DictComp kx vx [⟨t0, i0, ifs0, 0⟩, ⟨t1, i1, ifs1, 0⟩] scope pos) 1 t1 i1 ifs1 (emD kx vx D env) (.ref D) env := ⟨fun it => turn_D2i .., fun _ _ => rfl, fun _ => rfl, fun _ _ => rfl, fun _ => rfl, _, rfl, rfl⟩
theorem cl_S1 : Cl prog w (.SetComp elt [⟨t0, i0, ifs0, 0⟩] scope pos) 0 t0 i0 ifs0 (emS elt acc env) acc env := ⟨fun it => turn_S1 .., fun _ _ => rfl, fun _ => rfl, fun _ _ => rfl, fun _ => rfl, _, rfl, rfl⟩
theorem cl_S2o : Cl prog w (.SetComp elt [⟨t0, i0, ifs0, 0⟩, ⟨t1, i1, ifs1, 0⟩] scope pos) 0 t0 i0 ifs0 (emN (.SetComp elt [⟨t0, i0, ifs0, 0⟩, ⟨t1, i1, ifs1, 0⟩] scope pos) i1 acc env) acc env := ⟨fun it => turn_S2o .., fun _ _ => rfl, fun _ => rfl, fun _ _ => rfl, fun _ => rfl, _, rfl, rfl⟩
theorem cl_S2i : Cl prog w (.SetComp elt [⟨t0, i0, ifs0, 0⟩, ⟨t1, i1, ifs1, 0⟩] scope pos) 1 t1 i1 ifs1 (emS elt acc env) acc env := ⟨fun it => turn_S2i .., fun _ _ => rfl, fun _ => rfl, fun _ _ => rfl, fun _ => rfl, _, rfl, rfl⟩
end
end Lk

end
section
set_option maxRecDepth 100000
set_option maxHeartbeats 4000000
/-! Lk21: comprehensions of any kind: the reading, from the source's walk to the new object. -/
namespace Lk
open PySem PySem.Spec PyProof.Rows L2 Cr
/-- a reading of what the emission does: from slots and heap to the heaps wished -/
abbrev TM := L2.St → Hp → (Hp → Prop) → Prop
/-- the emission in a block's context; the slots vs may be lost -/
def PMb (X : Cx) (em : Sem Fin → Sem Fin) (vs : List Nat) (r : TM) : Prop := ∀ (pins : List (Addr × Obj)) (s : Shared) (σ : L2.St) (H : Hp) (N : Hp → Prop) (E : Value → Shared → Prop), Inv X pins σ H s → r σ H N → EmW X.prog X.w X.A em (fun s' => ∃ H', Inv X pins (wipe σ vs) H' s' ∧ N H') E s
/-- {.. for tg in iter if ..}: o0 the new object's start, em the emission's reading at the object's address -/
def tCo (o0 : Addr → HO) (wi : TI) (g : TG) (tt : TT) (em : Addr → TM) (vs : List Nat) : TE := fun σ H Q => wi σ H fun J H1 => ∀ D, H1 D = none → ∃ W : Nat → Nat → Hp → Prop, (∃ m, W 0 m (upd H1 D (o0 D))) ∧ ∀ i m H, W i m H →
  (J.stop i H ∧ Q (.ref D) H) ∨ (J.go i H ∧ ∃ Nx : Hp → Prop, (∀ H', Nx H' → ∃ m', m' < m ∧ W (i + 1) m' H') ∧ ∀ x H', J.yld i H x H' → g x (wipe σ vs) H' fun σ2 H2 => wipe σ2 vs = wipe σ vs ∧ tt σ2 H2 fun b H3 => if b = true then em D σ2 H3 Nx else Nx H3)
/-- a second clause as an emission -/
def tIn (wi : TI) (g : TG) (tt : TT) (em : TM) (vs1 : List Nat) : TM := fun σ H N => wi σ H fun J H1 => ∃ W : Nat → Nat → Hp → Prop, (∃ m, W 0 m H1) ∧ ∀ i m H, W i m H →
  (J.stop i H ∧ N H) ∨ (J.go i H ∧ ∃ Nx : Hp → Prop, (∀ H', Nx H' → ∃ m', m' < m ∧ W (i + 1) m' H') ∧ ∀ x H', J.yld i H x H' → g x (wipe σ vs1) H' fun σ2 H2 => wipe σ2 vs1 = wipe σ vs1 ∧ tt σ2 H2 fun b H3 => if b = true then em σ2 H3 Nx else Nx H3)
theorem wipe_keep {σ : L2.St} {i : Nat} : ∀ {vs : List Nat}, i ∉ vs → (wipe σ vs)[i]? = σ[i]?
  | [], _ => rfl
  | v :: vs, n => by
    rw [List.mem_cons, not_or] at n
    show ((wipe σ vs).set v none)[i]? = _
    rw [List.getElem?_set_ne (Ne.symm n.1)]
    exact wipe_keep n.2
/-- what the slots know at a turn's start they know behind it -/
theorem turn_back {σ σ2 : L2.St} {vs ve : List Nat} (hw : wipe σ2 vs = wipe σ vs) (hv : ∀ i ∈ ve, i ∈ vs) : (wipe σ vs).length = (wipe σ2 ve).length ∧ ∀ (j : Nat) v, (wipe σ vs)[j]? = some (some v) → (wipe σ2 ve)[j]? = some (some v) := by
  refine ⟨by rw [← hw, wipe_length, wipe_length], fun j v e => ?_⟩
  rw [← hw] at e
  obtain ⟨a, b⟩ := wipe_some e
  rw [wipe_keep fun z => b (hv j z)]
  exact a
section
variable {X : Cx} {e tg iter tg1 iter1 : Expr} {ifs ifs1 : List Expr} {scope : Scope} {own : List (Str × Nat)} {wi wi1 : TI} {g g1 : TG} {tt tt1 : TT} {em : TM} {vs1 : List Nat}
/-- a second clause, in a block's context X -/
theorem pm_in {acc : Value} {emit : Sem Fin → Sem Fin} {ve : List Nat} (hc : X.calm = true) (hxe : X.xe = fun _ _ => False) (c : Cl X.prog X.w e 1 tg1 iter1 ifs1 emit acc X.env) (hi : PI X tg1 iter1 wi1) (hg : PG X tg1 g1) (ht : PTs X ifs1 tt1)
    (he : PMb X emit ve em) (hve : ∀ i ∈ ve, i ∈ vs1) (hs : ∀ x, foldedSetIterable iter1 X.env x = pure x) : PMb X (emN e iter1 acc X.env) vs1 (tIn wi1 g1 tt1 em vs1) := by
  intro pins s σ H N E I h K Q' hK
  have run1 := hi.run pins s σ H _ I h
  rw [hxe] at run1
  unfold emN
  refine wpAny_bind (thnF run1 fun xv s1 hx => wpAny_bind (wpAny_standAt (wpAny_bind (wpAny_of_eq (hs xv) (wpAny_bind (wpAny_holding (thnF hx fun itv s2 h2 => ?_)))))))
  obtain ⟨it, fp, tn, J, H2, eit, I2, T, st2, f2, W, ⟨m0, w0⟩, turn⟩ := h2
  subst eit
  have fpok : ∀ {H' : Hp}, (∀ b ∈ fp, H' b = none) → ∀ b ∈ fp, FpOk X pins H' b := fun hn b hb => ⟨hn b hb, (f2 b hb).2⟩
  refine wpAny_bind (wpAny_runOwn ?_)
  rw [Around.mark_none]
  have loop : codeAny (model X.prog X.w) X.A (.compLoop e 1 (.ref it) acc X.env) (fun r s' => match r with
      | .ok _ => ∃ H', Inv X pins (wipe σ vs1) H' s' ∧ N H'
      | .error _ => False) s2 := by
    refine clLoop c (fun n s' => ∃ i H', Inv X pins (wipe σ vs1) H' s' ∧ tn i s'.heap ∧ (∀ b ∈ fp, H' b = none) ∧ W i n H') ?_ m0 ⟨0, H2, I2.weak (wipe_length _ _) (fun j v q => (wipe_some q).1), st2, fun b hb => (f2 b hb).1, w0⟩
    rintro n s3 ⟨i, H3, I3, st3, n3, w3⟩
    rcases turn i n H3 w3 with ⟨stop, nx⟩ | ⟨go, Nx, hNx, step⟩
    · refine thnF (T.done X rfl rfl rfl hc i pins s3 _ H3 (fun _ _ => False) I3 (fpok n3) st3 stop) fun r s4 ⟨hr, I4⟩ => ?_
      subst hr
      exact ⟨H3, I4, nx⟩
    · refine thnF (T.item X rfl rfl rfl hc i pins s3 _ H3 (fun _ _ => False) I3 (fpok n3) st3 go) fun r s4 ⟨u, hr, h4⟩ => ?_
      subst hr
      refine thnF h4 fun _ s5 ⟨x, H5, I5, r5, y5, st5, n5⟩ => ?_
      have I5' := I5.pinned (fpok n5) (T.obj _ _ st5)
      have pg := hg.run _ s5 _ H5 x u _ I5' r5 (step x H5 y5)
      rw [hxe] at pg
      refine thnF pg fun _ s6 ⟨σ6, H6, I6, hw6, q6⟩ => ?_
      have pt := ht.run _ s6 σ6 H6 _ I6 q6
      rw [hxe] at pt
      refine thnF pt fun b s7 ⟨H7, I7, q7⟩ => ?_
      have fin : ∀ {σ' : L2.St} {s' : Shared} {H' : Hp}, Inv X (pins ++ pinsAt fp s5.heap) σ' H' s' → (wipe σ vs1).length = σ'.length → (∀ (j : Nat) v, (wipe σ vs1)[j]? = some (some v) → σ'[j]? = some (some v)) → Nx H' →
          ∃ m, m < n ∧ ∃ i H', Inv X pins (wipe σ vs1) H' s' ∧ tn i s'.heap ∧ (∀ b ∈ fp, H' b = none) ∧ W i m H' := fun {σ' s' H'} I' hl hk nx => by
        obtain ⟨m', hm, w'⟩ := hNx H' nx
        have pin' : ∀ b ∈ fp, ∀ o, s5.heap.get? b = some o → s'.heap.get? b = some o ∧ H' b = none := fun b hb o eo =>
          let z := I'.pin (b, o) (List.mem_append_right _ (List.mem_append_right _ (mem_pinsAt hb eo)))
          ⟨z.1, z.2.1⟩
        refine ⟨m', hm, i + 1, H', (I'.unpinned (pins := pins)).weak hl hk, T.keep _ _ _ st5 fun b hb o eo => (pin' b hb o eo).1, fun b hb => ?_, w'⟩
        obtain ⟨o, eo, _⟩ := T.obj _ _ st5 b hb
        exact (pin' b hb o eo).2
      cases b with
      | false =>
        simp only [Bool.false_eq_true, if_false] at q7 ⊢
        obtain ⟨a1, a2⟩ := turn_back (ve := []) hw6 (by simp)
        exact fin I7 a1 a2 q7
      | true =>
        simp only [if_true] at q7 ⊢
        obtain ⟨a1, a2⟩ := turn_back (ve := ve) hw6 hve
        intro K' Q'' hK'
        exact he _ s7 σ6 H7 Nx _ I7 q7 K' Q'' fun s' ⟨H', I', nx⟩ => hK' s' (fin I' a1 a2 nx)
  refine codeAny_mono (clStart c loop (T.self X.A 0 _ _ _ st2 loop)) fun r s' hr => ?_
  cases r with
  | ok f =>
    first
      | exact hK s' hr
      | exact wpAny_bind (wpAny_pure (hK s' hr))
      | exact wpAny_pure (hK s' hr)
  | error z => exact hr.elim
/-- the whole: obj what is pushed for the new object, o0 what it is -/
theorem co_core {pins : List (Addr × Obj)} {s : Shared} {σ : L2.St} {H : Hp} {Q : VK} {pos' : Pos} {use : Option (Value → Sem Unit)} {Qf : Value → Shared → Prop} {mk : Sem Value} {obj : Obj} {o0 : Addr → HO} {emit : Addr → Env → Sem Fin → Sem Fin} {ve : List Nat} {emr : Addr → TM} {gs : List Comprehension}
    (hc : X.calm = true) (hN : X.N.Nodup) (I : Inv X pins σ H s) (hi : PI X tg iter wi) (ok : BlkOk X.N X.env.scope scope own) (hcl : clausesOf e = ⟨tg, iter, ifs, 0⟩ :: gs)
    (hmk : ∀ (s : Shared) (Q : Value → Shared → Prop), Q (.ref s.heap.objs.size) { s with heap := s.heap.push obj } → wpAny (model X.prog X.w) X.A mk Q X.xe s)
    (hob : ∀ (H : Hp) (h : Heap), sysModules < h.objs.size → ObjOk X.prog X.w H (h.push obj) h.objs.size (o0 h.objs.size))
    (cl : ∀ (D : Addr) (env : Env), Cl X.prog X.w e 0 tg iter ifs (emit D env) (.ref D) env)
    (hg : ∀ (s : Shared) (H : Hp) (C : Addr) (cl : List (Str × Addr)) (fp : List Addr), PG (X.blk s H scope (compEnvC scope cl C X.env) fp) tg g) (ht : ∀ (s : Shared) (H : Hp) (C : Addr) (cl : List (Str × Addr)) (fp : List Addr), PTs (X.blk s H scope (compEnvC scope cl C X.env) fp) ifs tt)
    (hem : ∀ (D : Addr) (s : Shared) (H : Hp) (C : Addr) (cl : List (Str × Addr)) (fp : List Addr), PMb (X.blk s H scope (compEnvC scope cl C X.env) fp) (emit D (compEnvC scope cl C X.env)) ve (emr D))
    (hve : ∀ i ∈ ve, i ∈ own.map (·.2)) (hs : ∀ x, foldedSetIterable iter X.env x = pure x) (h : tCo o0 wi g tt emr (own.map (·.2)) σ H Q)
    (hRR : ∀ D C s' m H', Inv X pins σ H' s' → Q (.ref D) H' → s'.heap.Ns C m → FpOk X pins H' C → compPost (model X.prog X.w) X.A X.xe use Qf (.ref D) C (.ok .next) s') :
    wpAny (model X.prog X.w) X.A (comprehension e scope X.env pos' mk false (eval iter X.env) use) Qf X.xe s := by
  have hfree : ∀ y ∈ scope.names, y.2 = .free → ∃ c, X.env.cells.lookup y.1 = some c := fun y hy q => (ok.free y hy q).elim (fun k => I.ok.has _ (.inl k)) fun k => I.ok.has _ (.inr k)
  refine wpAny_comprehension_free (use := use) hcl hs (closure_ok hfree) ok.kind (fun y hy q => by rw [ok.uniq y hy, q]) (thn (hi.run pins s σ H _ I h) fun xv s1 hx => thn hx fun itv s2 h2 => ?_)
  obtain ⟨it, fp, tn, J, H2, eit, I2, T, st2, f2, q⟩ := h2
  subst eit
  refine hmk s2 _ (newEnv_comp ?_)
  generalize hD : s2.heap.objs.size = D
  have hDn : H2 D = none := I2.hok.fresh (Nat.le_of_eq hD)
  obtain ⟨W, ⟨m0, w0⟩, turn⟩ := q D hDn
  generalize hs3 : ({ s2 with heap := s2.heap.push obj } : Shared) = s3
  have I3 : Inv X pins σ (upd H2 D (o0 D)) s3 := by
    rw [← hs3]
    refine I2.laid (t' := s2.toks) (fun b o z => Heap.get?_push_of_some _ z) (Nat.le_of_eq hD) ?_
    rw [← hD]
    exact hob _ _ I2.big
  have h3 : s3.heap = s2.heap.push obj := by rw [← hs3]
  have f3 : ∀ b ∈ fp, FpOk X pins (upd H2 D (o0 D)) b ∧ b < s3.heap.objs.size := fun b hb => by
    obtain ⟨o, z, _⟩ := T.obj _ _ st2 b hb
    have hlt := Heap.lt_size z
    refine ⟨⟨?_, (f2 b hb).2⟩, by rw [h3, Heap.size_push]; exact Nat.lt_succ_of_lt hlt⟩
    rw [upd_ne (by rw [← hD]; exact Nat.ne_of_lt hlt)]
    exact (f2 b hb).1
  have st3 : tn 0 s3.heap := T.keep _ _ _ st2 fun b _ o z => by rw [h3]; exact Heap.get?_push_of_some _ z
  have I4 := block_start I3 ok hN f3
  have pg := hg s3 (upd H2 D (o0 D)) s3.heap.objs.size (cellsFrom (s3.heap.objs.size + 1) scope.names (cloFrom X.env.cells scope.names [])) fp
  have pt := ht s3 (upd H2 D (o0 D)) s3.heap.objs.size (cellsFrom (s3.heap.objs.size + 1) scope.names (cloFrom X.env.cells scope.names [])) fp
  have pm := hem D s3 (upd H2 D (o0 D)) s3.heap.objs.size (cellsFrom (s3.heap.objs.size + 1) scope.names (cloFrom X.env.cells scope.names [])) fp
  show codeAny _ _ (.compStart e 0 (.ref it) (.ref D) (compEnvC scope (cellsFrom (s3.heap.objs.size + 1) scope.names (cloFrom X.env.cells scope.names [])) s3.heap.objs.size X.env)) (compPost (model X.prog X.w) X.A X.xe use Qf (.ref D) s3.heap.objs.size) { s3 with heap := pushCells (s3.heap.push { cls := .type "dict", data := .dict #[] }) scope.names }
  have nfp : ∀ b ∈ fp, (upd H2 D (o0 D)) b = none := fun b hb => (f3 b hb).1.1
  generalize hce : compEnvC scope (cellsFrom (s3.heap.objs.size + 1) scope.names (cloFrom X.env.cells scope.names [])) s3.heap.objs.size X.env = ce at I4 pg pt pm ⊢
  have cL : ce.locals = s3.heap.objs.size := by subst hce; rfl
  generalize hH3 : upd H2 D (o0 D) = H3 at I3 I4 pg pt pm w0 nfp f3
  generalize hs4 : ({ s3 with heap := pushCells (s3.heap.push { cls := .type "dict", data := .dict #[] }) scope.names } : Shared) = s4 at I4 ⊢
  have st4 : tn 0 s4.heap := T.keep _ _ _ st3 fun b _ o z => by rw [← hs4]; exact pushCells_keeps _ _ _ _ (Heap.get?_push_of_some _ z)
  have stat : ∀ {σ' : L2.St} {H' : Hp} {s' : Shared}, Inv (X.blk s3 H3 scope ce fp) [] σ' H' s' → (∀ b ∈ fp, H' b = none) → ∀ b ∈ fp, FpOk (X.blk s3 H3 scope ce fp) [] H' b := fun {σ' H' s'} I' hn b hb =>
    ⟨hn b hb, (I'.ok.exf b hb).1, I'.ok.exfs b hb, .inl hb, fun x c z => (I'.ok.exf b hb).2 x c z, fun p hp => absurd (show p ∈ ([] : List (Addr × Obj)) ++ [] from hp) (by simp)⟩
  have loop : codeAny (model X.prog X.w) X.A (.compLoop e 0 (.ref it) (.ref D) ce) (compPost (model X.prog X.w) X.A X.xe use Qf (.ref D) s3.heap.objs.size) s4 := by
    refine clLoop (cl D ce) (fun n s' => ∃ i H', Inv (X.blk s3 H3 scope ce fp) [] (wipe σ (own.map (·.2))) H' s' ∧ tn i s'.heap ∧ (∀ b ∈ fp, H' b = none) ∧ W i n H') ?_ m0 ⟨0, H3, I4, st4, nfp, w0⟩
    rintro n s5 ⟨i, H5, I5, st5, n5, w5⟩
    rcases turn i n H5 w5 with ⟨stop, qq⟩ | ⟨go, Nx, hNx, step⟩
    · refine thnF (T.done (X.blk s3 H3 scope ce fp) rfl rfl rfl hc i [] s5 _ H5 (fun _ _ => False) I5 (stat I5 n5) st5 stop) fun r s6 ⟨hr, I6⟩ => ?_
      subst hr
      have I7 : Inv X pins σ H5 s6 := I3.call' (ch := fp) I6.os I6.base I6.hok I6.bare fun b hb => ⟨(f3 b hb).1.2.2.2.1, (f3 b hb).1.2.1, (f3 b hb).1.2.2.2.2.1, (f3 b hb).1.2.2.2.2.2⟩
      have nC : H5 s3.heap.objs.size = none := by rw [← cL]; exact I6.free
      obtain ⟨m, hn, _⟩ := I6.loc
      have hn : s6.heap.Ns ce.locals m := hn
      rw [cL] at hn
      exact hRR D s3.heap.objs.size s6 m H5 I7 qq hn (I3.fpOk (Nat.le_refl _) nC)
    · refine thnF (T.item (X.blk s3 H3 scope ce fp) rfl rfl rfl hc i [] s5 _ H5 (fun _ _ => False) I5 (stat I5 n5) st5 go) fun r s6 ⟨u, hr, h6⟩ => ?_
      subst hr
      refine thnF h6 fun _ s7 ⟨x, H7, I7, r7, y7, st7, n7⟩ => ?_
      have I7' := I7.pinned (stat I7 n7) (T.obj _ _ st7)
      refine thnF (pg.run _ s7 _ H7 x u _ I7' r7 (step x H7 y7)) fun _ s8 ⟨σ8, H8, I8, hw8, q8⟩ => ?_
      refine thnF (pt.run _ s8 σ8 H8 _ I8 q8) fun b s9 ⟨H9, I9, q9⟩ => ?_
      have fin : ∀ {σ' : L2.St} {s' : Shared} {H' : Hp}, Inv (X.blk s3 H3 scope ce fp) ([] ++ pinsAt fp s7.heap) σ' H' s' → (wipe σ (own.map (·.2))).length = σ'.length → (∀ (j : Nat) v, (wipe σ (own.map (·.2)))[j]? = some (some v) → σ'[j]? = some (some v)) → Nx H' →
          ∃ m, m < n ∧ ∃ i H', Inv (X.blk s3 H3 scope ce fp) [] (wipe σ (own.map (·.2))) H' s' ∧ tn i s'.heap ∧ (∀ b ∈ fp, H' b = none) ∧ W i m H' := fun {σ' s' H'} I' hl hk nx => by
        obtain ⟨m', hm, w'⟩ := hNx H' nx
        have pin' : ∀ b ∈ fp, ∀ o, s7.heap.get? b = some o → s'.heap.get? b = some o ∧ H' b = none := fun b hb o z =>
          let z := I'.pin (b, o) (List.mem_append_right _ (List.mem_append_right _ (mem_pinsAt hb z)))
          ⟨z.1, z.2.1⟩
        refine ⟨m', hm, i + 1, H', (I'.unpinned (pins := [])).weak hl hk, T.keep _ _ _ st7 fun b hb o z => (pin' b hb o z).1, fun b hb => ?_, w'⟩
        obtain ⟨o, z, _⟩ := T.obj _ _ st7 b hb
        exact (pin' b hb o z).2
      cases b with
      | false =>
        simp only [Bool.false_eq_true, if_false] at q9 ⊢
        obtain ⟨a1, a2⟩ := turn_back (ve := []) hw8 (by simp)
        exact fin I9 a1 a2 q9
      | true =>
        simp only [if_true] at q9 ⊢
        obtain ⟨a1, a2⟩ := turn_back (ve := ve) hw8 hve
        intro K' Q'' hK'
        exact pm _ s9 σ8 H9 Nx _ I9 q9 K' Q'' fun s' ⟨H', I', nx⟩ => hK' s' (fin I' a1 a2 nx)
  exact clStart (cl D ce) loop (T.self X.A 0 _ _ _ st4 loop)
end
end Lk

end
section
set_option maxRecDepth 100000
set_option maxHeartbeats 4000000
/-! Lk22: comprehensions that gather: the plain function against the reading. -/
namespace Lk
open PySem PySem.Spec PyProof.Rows L2 Cr
section
variable {K : PySem.W.Frag} {O O' O'' : Addr → Prop} {H H' H'' : Hp}
theorem kp_trans (k : Keeps O H H') (g : Grows O O' H) (k' : Keeps O' H' H'') : Keeps O H H'' := fun a o e n => k' a o (k a o e n) fun z => (g a z).elim n fun q => by rw [q] at e; cases e
theorem gr_trans (k : Keeps O H H') (g : Grows O O' H) (g' : Grows O' O'' H') : Grows O O'' H := fun a z => by
  rcases g' a z with z | z
  · exact g a z
  · cases e : H a with
    | none => exact .inr rfl
    | some o =>
      by_cases n : O a
      · exact .inl n
      · rw [k a o e n] at z; cases z
theorem wipe_sub {σ : L2.St} {vs ve : List Nat} (h : ∀ i ∈ ve, i ∈ vs) : L2.wipe (L2.wipe σ ve) vs = L2.wipe σ vs := wipe_ext wipe_len fun i m => Lk.wipe_get fun z => m (h i z)
theorem wipeE_ext {vs : List Nat} {e e' : Sl} (hl : e'.length = e.length) (h : ∀ i, i ∉ vs → e'[i]? = e[i]?) : wipeE e' vs = wipeE e vs := by
  have hm : ∀ (vs : List Nat) (e : Sl) (i : Nat), i ∈ vs → (wipeE e vs)[i]? = if i < e.length then some none else none := by
    intro vs
    induction vs with
    | nil => intro e i h; cases h
    | cons v vs ih =>
      intro e i h
      unfold wipeE
      by_cases ev : v = i
      · subst ev
        by_cases hi : v < e.length
        · rw [if_pos hi, List.getElem?_set_self (by rw [wipeE_len]; exact hi)]
        · rw [if_neg hi, List.getElem?_eq_none (by rw [List.length_set, wipeE_len]; omega)]
      · rw [List.getElem?_set_ne ev]
        simp only [List.mem_cons] at h
        exact ih e i (h.resolve_left (Ne.symm ev))
  apply List.ext_getElem?
  intro i
  by_cases m : i ∈ vs
  · rw [hm vs _ i m, hm vs _ i m, hl]
  · rw [wipeE_get m, wipeE_get m, h i m]
theorem wipeE_sub {e : Sl} {vs ve : List Nat} (h : ∀ i ∈ ve, i ∈ vs) : wipeE (wipeE e ve) vs = wipeE e vs := wipeE_ext wipeE_len fun i m => wipeE_get fun z => m (h i z)
end
section
variable {α : Type} {C : Cc} {σ : L2.St} {H H0 : Hp} {F F0 : Fp} {P : Addr → Prop} {ε : Sl} {D : Addr} {vs ve : List Nat} {t : Tg} {c : M Bool} {em : α → M α} {emr : TM} {RA : (Addr → Prop) → Hp → α → HO → Prop} {N : Hp → Prop}
/-- what is gathered stands while what it is made of stands -/
def MvA {α : Type} (RA : (Addr → Prop) → Hp → α → HO → Prop) : Prop := ∀ (O O' : Addr → Prop) (H H' : Hp) (a : α) (o : HO), Keeps O H H' → Grows O O' H → RA O H a o → RA O' H' a o
/-- the wish behind an emission: base F0, H0 (where D is not yet) -/
def OkE (C : Cc) (ve : List Nat) (D : Addr) (RA : (Addr → Prop) → Hp → α → HO → Prop) (F0 : Fp) (H0 : Hp) (P : Addr → Prop) (σ : L2.St) (N : Hp → Prop) (F : Fp) (H : Hp) (o : Out α) : Prop :=
  match o with
  | .ok a ε' => ∀ H' F' o', RepE C.K C.G H' (L2.wipe σ ve) (wipeE ε' ve) F' P → Fr F0 H0 F' H' → Keeps (Own F P) H H' → Grows (Own F P) (Own F' P) H → H' D = some o' → RA (Own F' P) H' a o' → N H'
  | _ => False
/-- an emission against its reading -/
def EmS (C : Cc) (ve : List Nat) (RA : (Addr → Prop) → Hp → α → HO → Prop) (em : α → M α) (D : Addr) (emr : TM) : Prop := ∀ (σ : L2.St) (H H0 : Hp) (N : Hp → Prop) (ε : Sl) (F F0 : Fp) (P : Addr → Prop) (acc : α) (o : HO),
  RepE C.K C.G H σ ε F P → Fr F0 H0 F H → H0 D = none → P D → H D = some o → RA (Own F P) H acc o → OkE C ve D RA F0 H0 P σ N F H (em acc ε) → emr σ H N
theorem compG_cons {d : Cr.D} {ds : List Cr.D} {acc : α} {e e2 : Sl} {z : α} (h : compG vs t c em (d :: ds) acc e = .ok z e2) :
    ∃ e3 b e4, t d (wipeE e vs) = some e3 ∧ c e3 = .ok b e4 ∧ ((b = false ∧ compG vs t c em ds acc e4 = .ok z e2) ∨ ∃ a e5, b = true ∧ em acc e4 = .ok a e5 ∧ compG vs t c em ds a e5 = .ok z e2) := by
  unfold compG at h
  simp only [bd, stT] at h
  cases e1 : t d (wipeE e vs) with
  | none => rw [e1] at h; cases h
  | some e3 =>
    rw [e1] at h
    simp only at h
    cases e6 : c e3 with
    | exn c' e' => rw [e6] at h; cases h
    | bad => rw [e6] at h; cases h
    | ok b e4 =>
      rw [e6] at h
      simp only at h
      refine ⟨e3, b, e4, rfl, e6, ?_⟩
      cases b with
      | false => exact .inl ⟨rfl, by simpa using h⟩
      | true =>
        simp only [if_true, bd] at h
        cases e7 : em acc e4 with
        | exn c' e' => rw [e7] at h; cases h
        | bad => rw [e7] at h; cases h
        | ok y e5 => rw [e7] at h; exact .inr ⟨y, e5, rfl, rfl, h⟩
/-- the loop of a clause, from any state -/
theorem cl_loop (hG : ∀ v ∈ vs, C.G v = .dat) (hRA : MvA RA) (hve : ∀ i ∈ ve, i ∈ vs) (hE : EmS (C.blk vs) ve RA em D emr)
    {J : It} {ds : List Cr.D} {H1 : Hp} {O1 : Addr → Prop} (w : Walks C.K J H1 O1 ds) {acc0 accN : α} {e1 e2 : Sl} {o0 : HO} (hrun : compG vs t c em ds acc0 e1 = .ok accN e2)
    (R : RepE C.K C.G H σ e1 F P) (y0 : Fr F0 H0 F H) (hD0 : H0 D = none) (hPD : P D) (kp : Keeps O1 H1 H) (gr : Grows O1 (Own F P) H1) (hU : H D = some o0) (hA : RA (Own F P) H acc0 o0)
    (hfin : ∀ H' F' o', RepE C.K C.G H' (L2.wipe σ vs) (wipeE e2 vs) F' P → Fr F0 H0 F' H' → Keeps (Own F P) H H' → Grows (Own F P) (Own F' P) H → H' D = some o' → RA (Own F' P) H' accN o' → N H') :
    ∃ W : Nat → Nat → Hp → Prop, (∃ m, W 0 m H) ∧ ∀ i m H, W i m H → (J.stop i H ∧ N H) ∨ (J.go i H ∧ ∃ Nx : Hp → Prop, (∀ H', Nx H' → ∃ m', m' < m ∧ W (i + 1) m' H') ∧
      ∀ x H', J.yld i H x H' → tG (C.blk vs) t x (L2.wipe σ vs) H' fun σ2 H2 => L2.wipe σ2 vs = L2.wipe σ vs ∧ tT (C.blk vs) c σ2 H2 fun b H3 => if b = true then emr σ2 H3 Nx else Nx H3) := by
  let Inv0 : Nat → Hp → Prop := fun i H' => i ≤ ds.length ∧ ∃ e F' acc o, RepE C.K C.G H' (L2.wipe σ vs) (wipeE e vs) F' P ∧ Fr F0 H0 F' H' ∧ Keeps (Own F P) H H' ∧ Grows (Own F P) (Own F' P) H ∧ H' D = some o ∧ RA (Own F' P) H' acc o ∧ compG vs t c em (ds.drop i) acc e = .ok accN e2
  refine ⟨fun i m H' => m = ds.length - i ∧ Inv0 i H', ⟨ds.length, by simp, Nat.zero_le _, e1, F, acc0, o0, R.wipe hG, y0, Keeps.rfl', fun a z => .inl z, hU, hA, by simpa using hrun⟩, ?_⟩
  rintro i m H2 ⟨rfl, hi, e3, F2, acc, o2, R3, y2, k2, g2, hU2, hA2, hcp⟩
  have ww := w H2 (Own F2 P) (kp_trans kp gr k2) (gr_trans kp gr g2) R3.dom i
  by_cases hlt : i < ds.length
  · have hd : ds[i]? = some ds[i] := List.getElem?_eq_getElem hlt
    obtain ⟨go, yl⟩ := ww.1 _ hd
    refine .inr ⟨go, fun H' => ds.length - (i + 1) < ds.length - i ∧ Inv0 (i + 1) H', fun H' n => ⟨ds.length - (i + 1), n.1, rfl, n.2⟩, fun v H3 hy => ?_⟩
    obtain ⟨ext, r⟩ := yl v H3 hy
    rw [List.drop_eq_getElem_cons hlt] at hcp
    obtain ⟨e4, b, e5, q1, q2, q3⟩ := compG_cons hcp
    have kx : Keeps (Own F2 P) H2 H3 := fun a u e _ => ext a u e
    have gx : Grows (Own F2 P) (Own F2 P) H2 := fun a z => .inl z
    refine ⟨ds[i], wipeE e3 vs, F2, P, R3.grow ext, r, e4, q1, fun σ4 H4 F4 R4 y4 p4 => ?_⟩
    have hU4 : H4 D = some o2 := y4.keep D _ (ext D _ hU2) fun i z => R3.out i D z hPD
    have y04 : Fr F0 H0 F4 H4 := (y2.trans (Fr.ext ext)).trans y4
    have k4 : Keeps (Own F2 P) H2 H4 := kp_trans kx gx y4.keeps
    have g4 : Grows (Own F2 P) (Own F4 P) H2 := gr_trans kx gx y4.grows
    have wq : L2.wipe σ4 vs = L2.wipe σ vs := by
      rw [wipe_ext (σ := L2.wipe σ vs) p4.1 fun i m => p4.2 i (by simp [Cc.blk, m]), wipe_wipe]
    refine ⟨wq, e4, F4, P, R4, ?_⟩
    rw [q2]
    intro H5 F5 R5 y5
    have hU5 : H5 D = some o2 := y5.keep D _ hU4 fun i z => R4.out i D z hPD
    have y05 := y04.trans y5
    have k5 : Keeps (Own F2 P) H2 H5 := kp_trans k4 g4 y5.keeps
    have g5 : Grows (Own F2 P) (Own F5 P) H2 := gr_trans k4 g4 y5.grows
    have hA5 := hRA _ _ _ _ _ _ k5 g5 hA2
    rcases q3 with ⟨rfl, q3⟩ | ⟨a, e6, rfl, q4, q3⟩
    · refine iteF ⟨by omega, hlt, e5, F5, acc, o2, ?_, y05, kp_trans k2 g2 k5, gr_trans k2 g2 g5, hU5, hA5, q3⟩
      have := RepE.wipe (vs := vs) R5 hG
      rwa [wq] at this
    · refine iteT (hE σ4 H5 H0 _ e5 F5 F0 P acc o2 R5 y05 hD0 hPD hU5 hA5 ?_)
      rw [q4]
      intro H6 F6 o6 R6 y6 k6 g6 hU6 hA6
      refine ⟨by omega, hlt, e6, F6, a, o6, ?_, y6, kp_trans k2 g2 (kp_trans k5 g5 k6), gr_trans k2 g2 (gr_trans k5 g5 g6), hU6, hA6, q3⟩
      have := RepE.wipe (vs := vs) R6 hG
      rwa [wipe_sub hve, wipeE_sub hve, wq] at this
  · refine .inl ⟨ww.2 (by omega), ?_⟩
    rw [List.drop_of_length_le (by omega)] at hcp
    cases hcp
    exact hfin H2 F2 o2 R3 y2 k2 g2 hU2 hA2
/-- a second clause as an emission -/
theorem emIn_run {vs1 : List Nat} {it1 : M (List Cr.D)} {t1 : Tg} {c1 : M Bool} {em1 : α → M α} {emr1 : TM} (hG : ∀ v ∈ vs1, C.G v = .dat) (hRA : MvA RA) (hve : ∀ i ∈ ve, i ∈ vs1)
    (hE : EmS (C.blk vs1) ve RA em1 D emr1) : EmS C vs1 RA (emIn it1 vs1 t1 c1 em1) D (tIn (tI C it1) (tG (C.blk vs1) t1) (tT (C.blk vs1) c1) emr1 vs1) := by
  intro σ H H0 N ε F F0 P acc o R y0 hD0 hPD hU hA h
  refine ⟨ε, F, P, R, ?_⟩
  unfold emIn bd at h
  cases e : it1 ε with
  | exn k e1 => rw [e] at h; exact h.elim
  | bad => rw [e] at h; exact h.elim
  | ok ds e1 =>
    rw [e] at h
    intro J H1 F1 R1 y1 w
    cases ec : compG vs1 t1 c1 em1 ds acc e1 with
    | exn k e2 => simp only [ec] at h; exact h.elim
    | bad => simp only [ec] at h; exact h.elim
    | ok accN e2 =>
      simp only [ec] at h
      have hU1 : H1 D = some o := y1.keep D _ hU fun i z => R.out i D z hPD
      exact cl_loop hG hRA hve hE w ec R1 (y0.trans y1) hD0 hPD Keeps.rfl' (fun a z => .inl z) hU1 (hRA _ _ _ _ _ _ y1.keeps y1.grows hA) fun H' F' o' R' y' k' g' hU' hA' =>
        h H' F' o' R' y' (kp_trans y1.keeps y1.grows k') (gr_trans y1.keeps y1.grows g') hU' hA'
/-- the whole comprehension -/
theorem co_run {out : α → Cr.D} {a0 : α} {o0 : Addr → HO} {md : Md} {RA : Addr → (Addr → Prop) → Hp → α → HO → Prop} {it : M (List Cr.D)} {emR : Addr → TM} {Q : VK} (hG : ∀ v ∈ vs, C.G v = .dat) (hRA : ∀ D, MvA (RA D))
    (hve : ∀ i ∈ ve, i ∈ vs) (h0 : ∀ D O H, RA D O H a0 (o0 D)) (hM : ∀ {O : Addr → Prop} {H : Hp} {a : α} {o : HO} {D : Addr}, H D = some o → RA D O H a o → RepM C.K O H md (out a) (.ref D) [D]) (hE : ∀ D, EmS (C.blk vs) ve (RA D) em D (emR D))
    (h : tF C md (coE out a0 vs it t c em) σ H Q) : tCo o0 (tI C it) (tG (C.blk vs) t) (tT (C.blk vs) c) emR vs σ H Q := by
  obtain ⟨ε, F, P, R, h⟩ := h
  refine ⟨ε, F, P, R, ?_⟩
  unfold coE bd at h
  cases e : it ε with
  | exn k e1 => rw [e] at h; exact h
  | bad => rw [e] at h; exact h
  | ok ds e1 =>
    rw [e] at h
    intro J H1 F1 R1 y1 w D hD
    have h1 := OkF.stp.step _ _ _ _ _ h y1
    clear h
    cases ec : compG vs t c em ds a0 e1 with
    | exn k e2 => simp only [ec] at h1; exact h1.elim
    | bad => simp only [ec] at h1; exact h1.elim
    | ok accN e2 =>
    simp only [ec] at h1
    let P' : Addr → Prop := fun a => P a ∨ a ∈ [D]
    have hP' : P' D := .inr (List.mem_singleton.mpr rfl)
    have gP : ∀ a, P' a → P a ∨ H1 a = none := fun a z => z.elim .inl fun z => .inr (by rw [List.mem_singleton.mp z]; exact hD)
    have R2 : RepE C.K C.G (upd H1 D (o0 D)) σ e1 F1 P' := R1.ext (same_upd hD) fun a z => z.elim .inl fun z => .inr (by
      rw [List.mem_singleton.mp z]
      exact ⟨hD, by rw [upd_same]; intro z; cases z⟩)
    have gg : Grows (Own F1 P) (Own F1 P') H1 := fun a z => by
      rcases z with z | z
      · exact (gP a z).elim (fun z => .inl (.inl z)) .inr
      · exact .inl (.inr z)
    exact cl_loop (H := upd H1 D (o0 D)) hG (hRA D) hve (hE D) w ec R2 (Fr.ext (same_upd hD)) hD hP' (fun a u q _ => same_upd hD a u q) gg upd_same (h0 _ _ _) fun H' F' o' R' y' k' g' hU' hA' =>
      h1 (.ref D) H' F' [D] (RepE.rest R1 R' y' hG gP) y' (fun a ha => by rw [List.mem_singleton.mp ha]; exact hD) (hM hU' hA')
end
end Lk

end
section
set_option maxRecDepth 100000
set_option maxHeartbeats 4000000
/-! Lk23: dict comprehensions, keys numbers. -/
namespace Lk
open PySem PySem.Spec PyProof.Rows L2 Cr
def emDr (tk tv : TE) (D : Addr) : TM := fun σ H N => tk σ H fun y H4 => tv σ H4 fun z H5 => ∃ kvs k, y = kV k ∧ H5 D = some (.dK kvs) ∧ kvs.length < sizeLine ∧ N (upd H5 D (.dK (putK kvs k z)))
section
variable {X : Cx} {kx vx : Expr} {tk tv : TE}
theorem pm_D {D : Addr} (hxe : X.xe = fun _ _ => False) (hk : PE X kx tk) (hv : PE X vx tv) : PMb X (emD kx vx D X.env) [] (emDr tk tv D) := by
  intro pins s σ H N E I h K Q' hK
  have r1 := hk.run pins s σ H _ I h
  rw [hxe] at r1
  unfold emD
  refine wpAny_bind (wpAny_bind (thnF r1 fun kv s1 ⟨y, H1, I1, ry, q1⟩ => ?_))
  have r2 := hv.run pins s1 σ H1 _ I1 q1
  rw [hxe] at r2
  refine wpAny_bind (wpAny_holding (thnF r2 fun vv s2 ⟨z, H2, I2, rz, kvs, k, ek, hD, hz, nx⟩ => ?_))
  subst ek
  exact wpAny_bind (wpAny_standAt (wpAny_holding (d_dictSet I2 hD hz ry rz fun s' I' => hK s' ⟨_, I', nx⟩)))
end
/-! ### entries -/
section
variable {K : PySem.W.Frag} {O : Addr → Prop} {H : Hp}
def RAd (K : PySem.W.Frag) (O : Addr → Prop) (H : Hp) (acc : Ents) (o : HO) : Prop := ∃ us, o = .dK us ∧ RepD K O H acc us
theorem mv_RAd : MvA (RAd K) := fun O O' H H' a o k g ⟨us, e, r⟩ => ⟨us, e, RepD.move k g a us r⟩
theorem RepD.length : ∀ {ks : Ents} {us : List (Key × V)}, RepD K O H ks us → us.length = ks.length
  | [], _, h => by cases (show _ = [] from h); rfl
  | p :: ks, _, h => by
    obtain ⟨u, r, rfl, _, h2⟩ := h
    simp [RepD.length h2]
theorem key_is {p : D × D} {u : Key × V} {n : Int} (r : RepP K O H p u) : Cr.keyIs n p.1 = decide (u.1 = Sum.inl n) := by
  obtain ⟨k, d⟩ := p
  obtain ⟨⟨m, e1, e2⟩, _⟩ := r
  subst e1
  rw [e2]
  unfold Cr.keyIs
  by_cases h : m = n
  · subst h; simp
  · rw [decide_eq_false (fun z => h (Sum.inl.inj z))]
    simpa using h
theorem key_any {n : Int} : ∀ {ks : Ents} {us : List (Key × V)}, RepD K O H ks us → (ks.any fun p => Cr.keyIs n p.1) = us.any fun kv => decide (kv.1 = Sum.inl n)
  | [], _, h => by cases (show _ = [] from h); rfl
  | p :: ks, _, h => by
    obtain ⟨u, r, rfl, h1, h2⟩ := h
    rw [List.any_cons, List.any_cons, key_is h1, key_any h2]
theorem RepD.app : ∀ {ks ls : Ents} {us ws : List (Key × V)}, RepD K O H ks us → RepD K O H ls ws → RepD K O H (ks ++ ls) (us ++ ws)
  | [], _, _, _, h, q => by cases (show _ = [] from h); exact q
  | p :: ks, _, _, _, h, q => by
    obtain ⟨u, r, rfl, h1, h2⟩ := h
    exact ⟨u, _, rfl, h1, RepD.app h2 q⟩
theorem RepD.sub {n : Int} {d : D} {x : V} (rx : Rep K O H d x) : ∀ {ks : Ents} {us : List (Key × V)}, RepD K O H ks us → RepD K O H (ks.map fun p => if Cr.keyIs n p.1 = true then (p.1, d) else p) (us.map fun kv => if kv.1 = Sum.inl n then (kv.1, x) else kv)
  | [], _, h => by cases (show _ = [] from h); rfl
  | (k, e) :: ks, _, h => by
    obtain ⟨u, r, rfl, h1, h2⟩ := h
    refine ⟨_, _, rfl, ?_, RepD.sub rx h2⟩
    have hk := key_is (n := n) h1
    by_cases z : u.1 = Sum.inl n
    · simp only []
      rw [if_pos z, if_pos (by rw [hk]; exact decide_eq_true z)]
      exact ⟨h1.1, rx⟩
    · simp only []
      rw [if_neg z, if_neg (by rw [hk, decide_eq_false z]; exact Bool.false_ne_true)]
      exact h1
theorem RepD.put {ks : Ents} {us : List (Key × V)} {n : Int} {d : D} {x : V} (r : RepD K O H ks us) (rx : Rep K O H d x) : RepD K O H (putE ks n d) (putK us (Sum.inl n) x) := by
  unfold putE putK
  rw [key_any r]
  split
  · exact RepD.sub rx r
  · exact r.app ⟨_, _, rfl, ⟨⟨n, rfl, rfl⟩, rx⟩, rfl⟩
theorem RepD.get {ks : Ents} {us : List (Key × V)} {n : Int} : RepD K O H ks us → match getE ks n with
    | some d => ∃ x, valV us (Sum.inl n) = some x ∧ Rep K O H d x
    | none => valV us (Sum.inl n) = none := by
  induction ks generalizing us with
  | nil => intro h; rw [show us = [] from h]; rfl
  | cons p ks ih =>
    rintro ⟨u, r, rfl, h1, h2⟩
    have hk := key_is (n := n) h1
    unfold getE
    by_cases z : u.1 = Sum.inl n
    · rw [List.find?_cons_of_pos (by rw [hk]; exact decide_eq_true z)]
      obtain ⟨k, d⟩ := p
      exact ⟨u.2, valV_pos z, h1.2⟩
    · rw [List.find?_cons_of_neg (by rw [hk, decide_eq_false z]; exact Bool.false_ne_true), valV_neg z]
      exact ih h2
end
section
variable {C : Cc} {kx vx : M Cr.D} {D : Addr}
theorem emK_run : EmS C [] (RAd C.K) (emK kx vx) D (emDr (tE C kx) (tE C vx) D) := by
  intro σ H H0 N ε F F0 P acc o R y0 hD0 hPD hU hA h
  obtain ⟨us, eo, rd⟩ := hA
  subst eo
  refine ⟨ε, F, P, R, ?_⟩
  unfold emK bd at h
  cases e1 : kx ε with
  | exn k e => rw [e1] at h; exact h.elim
  | bad => rw [e1] at h; exact h.elim
  | ok k ε1 =>
    rw [e1] at h
    intro H1 F1 R1 y1 v rv
    refine ⟨ε1, F1, P, R1, ?_⟩
    simp only at h
    cases e2 : vx ε1 with
    | exn k e => rw [e2] at h; exact h.elim
    | bad => rw [e2] at h; exact h.elim
    | ok x ε2 =>
      rw [e2] at h
      intro H2 F2 R2 y2 z rz
      cases k with
      | int n =>
        simp only at h
        by_cases hl : acc.length < LIM
        · rw [if_pos hl] at h
          have y12 := y1.trans y2
          have hU2 : H2 D = some (.dK us) := y12.keep D _ hU fun i q => R.out i D q hPD
          have rd2 : RepD C.K (Own F2 P) H2 acc us := RepD.move y12.keeps y12.grows acc us rd
          have ev : v = .int n := rv
          refine ⟨us, Sum.inl n, by rw [ev]; rfl, hU2, by rw [rd.length]; exact Nat.lt_of_lt_of_le hl (by decide), ?_⟩
          refine h _ F2 _ (RepE.mutP R2 hPD) ((y0.trans y12).mut hD0) ?_ ?_ upd_same ⟨_, rfl, RepD.put (RepD.move (keeps_upd (.inl hPD)) (fun a z => .inl z) _ _ rd2) (Rep.move (keeps_upd (.inl hPD)) (fun a z => .inl z) _ _ rz)⟩
          · exact kp_trans y12.keeps y12.grows (keeps_upd (.inl hPD))
          · exact gr_trans y12.keeps y12.grows fun a z => .inl z
        · rw [if_neg hl] at h; exact h.elim
      | _ => exact h.elim
end
section
variable {X : Cx} {C : Cc} {kx vx tg iter tg1 iter1 : Expr} {ifs ifs1 : List Expr} {scope : Scope} {own : List (Str × Nat)} {pos : Pos} {it it1 : M (List D)} {t t1 : Tg} {c c1 : M Bool} {k v : M D} {vs vs1 : List Nat}
theorem od_of {O : Addr → Prop} {H : Hp} {a : Ents} {o : HO} {D : Addr} (hU : H D = some o) (r : RAd C.K O H a o) : RepM C.K O H .od (.dct a) (.ref D) [D] := by
  obtain ⟨us, rfl, q⟩ := r
  exact ⟨D, us, a, rfl, rfl, rfl, hU, q⟩
theorem rd0 (O : Addr → Prop) (H : Hp) : RAd C.K O H [] (.dK []) := ⟨[], rfl, rfl⟩
/-- the facts of a block -/
abbrev InB (X : Cx) (scope : Scope) (p : Cx → Prop) : Prop := ∀ (s : Shared) (H : Hp) (L : Addr) (cl : List (Str × Addr)) (fp : List Addr), p (X.blk s H scope (compEnvC scope cl L X.env) fp)
theorem dc_core1 {pins : List (Addr × Obj)} {s : Shared} {σ : L2.St} {H : Hp} {Q : VK} {pos' : Pos} {use : Option (Value → Sem Unit)} {Qf : Value → Shared → Prop} (hc : X.calm = true) (hN : X.N.Nodup) (I : L2.Inv X pins σ H s) (hi : PI X tg iter (tI C it)) (ok : BlkOk X.N X.env.scope scope own) (hv : own.map (·.2) = vs) (hG : ∀ v ∈ vs, C.G v = .dat)
    (hg : InB X scope fun Y => PG Y tg (tG (C.blk vs) t)) (ht : InB X scope fun Y => PTs Y ifs (tT (C.blk vs) c)) (hk : InB X scope fun Y => PE Y kx (tE (C.blk vs) k)) (hx : InB X scope fun Y => PE Y vx (tE (C.blk vs) v))
    (hs : ∀ x, foldedSetIterable iter X.env x = pure x) (h : tF C .od (dcE vs it t c k v) σ H Q)
    (hRR : ∀ D L s' m H', L2.Inv X pins σ H' s' → Q (.ref D) H' → s'.heap.Ns L m → FpOk X pins H' L → compPost (model X.prog X.w) X.A X.xe use Qf (.ref D) L (.ok .next) s') :
    wpAny (model X.prog X.w) X.A (comprehension (.DictComp kx vx [⟨tg, iter, ifs, 0⟩] scope pos) scope X.env pos' newDict false (eval iter X.env) use) Qf X.xe s := by
  subst hv
  exact co_core (obj := { cls := .type "dict", data := .dict #[] }) (o0 := fun _ => .dK []) (emit := emD kx vx) (ve := []) hc hN I hi ok rfl (fun s Q q => wpAny_newObj_type q) (fun H h hb => dk_empty h hb) (fun D env => cl_D1 ..) hg ht
    (fun D s H L cl fp => pm_D rfl (hk s H L cl fp) (hx s H L cl fp)) (by simp) hs (co_run (out := Cr.D.dct) (emR := emDr (tE (C.blk _) k) (tE (C.blk _) v)) (RA := fun _ => RAd C.K) hG (fun _ => mv_RAd) (ve := []) (by simp) (fun _ => rd0) od_of (fun D => emK_run) h) hRR
theorem rf_dc (hc : X.calm = true) (hN : X.N.Nodup) (hi : PI X tg iter (tI C it)) (ok : BlkOk X.N X.env.scope scope own) (hv : own.map (·.2) = vs) (hG : ∀ v ∈ vs, C.G v = .dat)
    (hg : InB X scope fun Y => PG Y tg (tG (C.blk vs) t)) (ht : InB X scope fun Y => PTs Y ifs (tT (C.blk vs) c)) (hk : InB X scope fun Y => PE Y kx (tE (C.blk vs) k)) (hx : InB X scope fun Y => PE Y vx (tE (C.blk vs) v))
    (hs : ∀ x, foldedSetIterable iter X.env x = pure x := by intro _; rfl) : PE X (.DictComp kx vx [⟨tg, iter, ifs, 0⟩] scope pos) (tF C .od (dcE vs it t c k v)) := by
  refine ⟨fun pins s σ H Q I h => ?_⟩
  rw [arm_eval_DictComp]
  refine dc_core1 hc hN I hi ok hv hG hg ht hk hx hs h fun D L s' m H' I' q hn f => ⟨m, hn, fun h'' sb => ?_⟩
  obtain ⟨f0, f1, f2, f3, f4, f5⟩ := f
  exact ⟨.ref D, H', I'.turned (t' := s'.toks) (fun b o hb z => (sb.2 b hb).trans z) f0 f1 f3 f4 f5, rfl, q⟩
theorem dc_core2 {pins : List (Addr × Obj)} {s : Shared} {σ : L2.St} {H : Hp} {Q : VK} {pos' : Pos} {use : Option (Value → Sem Unit)} {Qf : Value → Shared → Prop} (hc : X.calm = true) (hN : X.N.Nodup) (I : L2.Inv X pins σ H s) (hi : PI X tg iter (tI C it)) (ok : BlkOk X.N X.env.scope scope own) (hv : own.map (·.2) = vs) (hG : ∀ v ∈ vs, C.G v = .dat) (hsub : ∀ i ∈ vs1, i ∈ vs)
    (hg : InB X scope fun Y => PG Y tg (tG (C.blk vs) t)) (ht : InB X scope fun Y => PTs Y ifs (tT (C.blk vs) c)) (hi1 : InB X scope fun Y => PI Y tg1 iter1 (tI (C.blk vs) it1)) (hg1 : InB X scope fun Y => PG Y tg1 (tG (C.blk vs1) t1)) (ht1 : InB X scope fun Y => PTs Y ifs1 (tT (C.blk vs1) c1))
    (hk : InB X scope fun Y => PE Y kx (tE (C.blk vs1) k)) (hx : InB X scope fun Y => PE Y vx (tE (C.blk vs1) v)) (hs : ∀ x, foldedSetIterable iter X.env x = pure x) (hs1 : ∀ env x, foldedSetIterable iter1 env x = pure x) (h : tF C .od (dc2E vs it t c vs1 it1 t1 c1 k v) σ H Q)
    (hRR : ∀ D L s' m H', L2.Inv X pins σ H' s' → Q (.ref D) H' → s'.heap.Ns L m → FpOk X pins H' L → compPost (model X.prog X.w) X.A X.xe use Qf (.ref D) L (.ok .next) s') :
    wpAny (model X.prog X.w) X.A (comprehension (.DictComp kx vx [⟨tg, iter, ifs, 0⟩, ⟨tg1, iter1, ifs1, 0⟩] scope pos) scope X.env pos' newDict false (eval iter X.env) use) Qf X.xe s := by
  subst hv
  exact co_core (obj := { cls := .type "dict", data := .dict #[] }) (o0 := fun _ => .dK []) (emit := fun D env => emN (.DictComp kx vx [⟨tg, iter, ifs, 0⟩, ⟨tg1, iter1, ifs1, 0⟩] scope pos) iter1 (.ref D) env) (ve := vs1) hc hN I hi ok rfl (fun s Q q => wpAny_newObj_type q) (fun H h hb => dk_empty h hb) (fun D env => cl_D2o ..) hg ht
    (fun D s H L cl fp => pm_in hc rfl (cl_D2i ..) (hi1 s H L cl fp) (hg1 s H L cl fp) (ht1 s H L cl fp) (pm_D (D := D) rfl (hk s H L cl fp) (hx s H L cl fp)) (by simp) (hs1 _)) hsub hs
    (co_run (out := Cr.D.dct) (emR := fun D => tIn (tI (C.blk _) it1) (tG (C.blk vs1) t1) (tT (C.blk vs1) c1) (emDr (tE (C.blk vs1) k) (tE (C.blk vs1) v) D) vs1) (RA := fun _ => RAd C.K) hG (fun _ => mv_RAd) (ve := vs1) hsub (fun _ => rd0) od_of (fun D => emIn_run (C := C.blk _) (fun v hv => hG v (hsub v hv)) mv_RAd (ve := []) (by simp) emK_run) h) hRR
theorem rf_dc2 (hc : X.calm = true) (hN : X.N.Nodup) (hi : PI X tg iter (tI C it)) (ok : BlkOk X.N X.env.scope scope own) (hv : own.map (·.2) = vs) (hG : ∀ v ∈ vs, C.G v = .dat) (hsub : ∀ i ∈ vs1, i ∈ vs)
    (hg : InB X scope fun Y => PG Y tg (tG (C.blk vs) t)) (ht : InB X scope fun Y => PTs Y ifs (tT (C.blk vs) c)) (hi1 : InB X scope fun Y => PI Y tg1 iter1 (tI (C.blk vs) it1)) (hg1 : InB X scope fun Y => PG Y tg1 (tG (C.blk vs1) t1)) (ht1 : InB X scope fun Y => PTs Y ifs1 (tT (C.blk vs1) c1))
    (hk : InB X scope fun Y => PE Y kx (tE (C.blk vs1) k)) (hx : InB X scope fun Y => PE Y vx (tE (C.blk vs1) v)) (hs : ∀ x, foldedSetIterable iter X.env x = pure x := by intro _; rfl) (hs1 : ∀ env x, foldedSetIterable iter1 env x = pure x := by intro _ _; rfl) :
    PE X (.DictComp kx vx [⟨tg, iter, ifs, 0⟩, ⟨tg1, iter1, ifs1, 0⟩] scope pos) (tF C .od (dc2E vs it t c vs1 it1 t1 c1 k v)) := by
  refine ⟨fun pins s σ H Q I h => ?_⟩
  rw [arm_eval_DictComp]
  refine dc_core2 hc hN I hi ok hv hG hsub hg ht hi1 hg1 ht1 hk hx hs hs1 h fun D L s' m H' I' q hn f => ⟨m, hn, fun h'' sb => ?_⟩
  obtain ⟨f0, f1, f2, f3, f4, f5⟩ := f
  exact ⟨.ref D, H', I'.turned (t' := s'.toks) (fun b o hb z => (sb.2 b hb).trans z) f0 f1 f3 f4 f5, rfl, q⟩
/-- the store of a comprehension's object, within its frame -/
theorem co_store {pins : List (Addr × Obj)} {σ : L2.St} {D : Ends} {i : Nat} {y : Str} {py : Pos} {a L : Addr} {s' : Shared} {m : Str → Option Value} {H' : Hp} (hN : X.N.Nodup) (hy : X.N[i]? = some y) (hyl : X.env.scope.names.lookup y = some .local) (I' : L2.Inv X pins σ H' s') (q : gName i (.ref a) σ H' D.nx) (hn : s'.heap.Ns L m) (f : FpOk X pins H' L) :
    compPost (model X.prog X.w) X.A X.xe (some (assign (.Name y py) X.env)) (fun _ s' => SP X pins D .next s') (.ref a) L (.ok .next) s' := by
  show wpAny _ _ (assign (.Name y py) X.env (.ref a)) _ _ _
  obtain ⟨f0, f1, f2, f3, f4, f5⟩ := f
  refine wpAny_assign_Name (store_ok2 (v := V.ref a) I' hN hy (.inl hyl) rfl (fun s2 I2 ⟨b, sb, hb⟩ => ?_) (.inr hyl))
  have hne : L ≠ b := hb.elim (fun z => by rw [z]; exact f1) fun z w => f4 y b z w.symm
  exact ⟨m, hn.sameBut sb hne, fun h3 sb3 => ⟨_, H', I2.turned (t' := s2.toks) (fun b o hb z => (sb3.2 b hb).trans z) f0 f1 f3 f4 f5, q⟩⟩
theorem rs_setDc2 {i : Nat} {y : Str} {py spos : Pos} (hc : X.calm = true) (hN : X.N.Nodup) (hy : X.N[i]? = some y) (hyl : X.env.scope.names.lookup y = some .local) (hsw : swapsWith (.DictComp kx vx [⟨tg, iter, ifs, 0⟩, ⟨tg1, iter1, ifs1, 0⟩] scope pos) (some (.Name y py)) spos.line X.env = pure true)
    (hi : PI X tg iter (tI C it)) (ok : BlkOk X.N X.env.scope scope own) (hv : own.map (·.2) = vs) (hG : ∀ v ∈ vs, C.G v = .dat) (hsub : ∀ i ∈ vs1, i ∈ vs)
    (hg : InB X scope fun Y => PG Y tg (tG (C.blk vs) t)) (ht : InB X scope fun Y => PTs Y ifs (tT (C.blk vs) c)) (hi1 : InB X scope fun Y => PI Y tg1 iter1 (tI (C.blk vs) it1)) (hg1 : InB X scope fun Y => PG Y tg1 (tG (C.blk vs1) t1)) (ht1 : InB X scope fun Y => PTs Y ifs1 (tT (C.blk vs1) c1))
    (hk : InB X scope fun Y => PE Y kx (tE (C.blk vs1) k)) (hx : InB X scope fun Y => PE Y vx (tE (C.blk vs1) v)) (hs : ∀ x, foldedSetIterable iter X.env x = pure x := by intro _; rfl) (hs1 : ∀ env x, foldedSetIterable iter1 env x = pure x := by intro _ _; rfl) :
    PS X (.Assign [.Name y py] (.DictComp kx vx [⟨tg, iter, ifs, 0⟩, ⟨tg1, iter1, ifs1, 0⟩] scope pos) spos) (tAsg (tF C .od (dc2E vs it t c vs1 it1 t1 c1 k v)) (gName i)) := by
  refine ⟨fun pins s σ H D I h => ?_⟩
  rw [exec_Assign_Name_used _ _ _ _ hsw]
  refine wpAny_bind (wpAny_standAt (wpAny_bind ?_))
  show wpAny _ X.A (do let _ ← comprehension (.DictComp kx vx [⟨tg, iter, ifs, 0⟩, ⟨tg1, iter1, ifs1, 0⟩] scope pos) scope X.env (firstIterPos [⟨tg, iter, ifs, 0⟩, ⟨tg1, iter1, ifs1, 0⟩] pos) newDict false (eval iter X.env) (some (assign (.Name y py) X.env))) _ _ s
  have h : tF C .od (dc2E vs it t c vs1 it1 t1 c1 k v) σ H (fun x H1 => gName i x σ H1 D.nx) := h
  exact wpAny_bind (thn (dc_core2 (Qf := fun _ s' => SP X pins D .next s') hc hN I hi ok hv hG hsub hg ht hi1 hg1 ht1 hk hx hs hs1 h fun a L s' m H' I' q hn f => co_store hN hy hyl I' q hn f) fun _ s' hq => wpAny_pure (wpAny_pure hq))
theorem rs_setDc {i : Nat} {y : Str} {py spos : Pos} (hc : X.calm = true) (hN : X.N.Nodup) (hy : X.N[i]? = some y) (hyl : X.env.scope.names.lookup y = some .local) (hsw : swapsWith (.DictComp kx vx [⟨tg, iter, ifs, 0⟩] scope pos) (some (.Name y py)) spos.line X.env = pure true)
    (hi : PI X tg iter (tI C it)) (ok : BlkOk X.N X.env.scope scope own) (hv : own.map (·.2) = vs) (hG : ∀ v ∈ vs, C.G v = .dat)
    (hg : InB X scope fun Y => PG Y tg (tG (C.blk vs) t)) (ht : InB X scope fun Y => PTs Y ifs (tT (C.blk vs) c)) (hk : InB X scope fun Y => PE Y kx (tE (C.blk vs) k)) (hx : InB X scope fun Y => PE Y vx (tE (C.blk vs) v)) (hs : ∀ x, foldedSetIterable iter X.env x = pure x := by intro _; rfl) :
    PS X (.Assign [.Name y py] (.DictComp kx vx [⟨tg, iter, ifs, 0⟩] scope pos) spos) (tAsg (tF C .od (dcE vs it t c k v)) (gName i)) := by
  refine ⟨fun pins s σ H D I h => ?_⟩
  rw [exec_Assign_Name_used _ _ _ _ hsw]
  refine wpAny_bind (wpAny_standAt (wpAny_bind ?_))
  show wpAny _ X.A (do let _ ← comprehension (.DictComp kx vx [⟨tg, iter, ifs, 0⟩] scope pos) scope X.env (firstIterPos [⟨tg, iter, ifs, 0⟩] pos) newDict false (eval iter X.env) (some (assign (.Name y py) X.env))) _ _ s
  have h : tF C .od (dcE vs it t c k v) σ H (fun x H1 => gName i x σ H1 D.nx) := h
  exact wpAny_bind (thn (dc_core1 (Qf := fun _ s' => SP X pins D .next s') hc hN I hi ok hv hG hg ht hk hx hs h fun a L s' m H' I' q hn f => co_store hN hy hyl I' q hn f) fun _ s' hq => wpAny_pure (wpAny_pure hq))
end
end Lk

end
section
set_option maxRecDepth 100000
set_option maxHeartbeats 4000000
/-! Lk24: slots that own a list or hold a thing without an address; lists of a dict's keys. -/
namespace Lk
open PySem PySem.Spec PyProof.Rows L2 Cr
section
variable {X : Cx} {C : Cc} {e : Expr} {m : M D} {i : Nat}
theorem rx_list (h : PE X e (tF C .ol m)) : PE X e (tF C .ox m) := PE.mono h fun σ H Q ⟨ε, F, P, R, h⟩ => by
  refine ⟨ε, F, P, R, ?_⟩
  cases z : m ε with
  | ok d ε' => rw [z] at h; exact fun v H' F' fp R' y n r => h v H' F' fp R' y n (.inl r)
  | exn c ε' => rw [z] at h; exact h
  | bad => rw [z] at h; exact h
theorem nolst_of {d : D} (h : scal d = true) : nolst d = true := by cases d <;> first | rfl | cases h
theorem rx_scal (h : PE X e (tE C m)) : PE X e (tF C .ox (scE m)) := PE.mono h fun σ H Q ⟨ε, F, P, R, h⟩ => by
  have S : Stp C σ P (OkF C .ox σ Q P) := OkF.stp
  unfold scE at h
  refine tE.imp (gE_bd S R h) fun v H1 ⟨d, ε1, F1, R1, y1, r1, h1⟩ => ?_
  by_cases hs : scal d = true
  · rw [if_pos hs] at h1
    exact h1 v H1 F1 [] R1.nilP Fr.refl (fun a z => by cases z) (.inr ⟨nolst_of hs, rfl, r1.weak fun a z => z.elim (fun z => .inl (z.elim id fun z => by cases z)) .inr⟩)
  · rw [if_neg hs] at h1
    exact h1.elim
end
section
variable {C : Cc} {σ : L2.St} {H : Hp} {F : Fp} {P : Addr → Prop} {ε : Sl} {i : Nat}
theorem RepE.olX (R : RepE C.K C.G H σ ε F P) (hG : C.G i = .ox) {ds : List D} (e : ε[i]? = some (some (.lst ds))) : ∃ a vs, σ[i]? = some (some (.ref a)) ∧ F i = [a] ∧ H a = some (.lst vs) ∧ RepL C.K (Own F P) H ds vs ∧ i < ε.length := by
  obtain ⟨v, hv, r⟩ := R.val i _ e
  rw [hG] at r
  rcases r with ⟨a, vs, ds', e1, rfl, h1, h2, h3⟩ | ⟨h1, _⟩
  · cases e1
    exact ⟨a, vs, hv, h1, h2, h3, (List.getElem?_eq_some_iff.mp e).1⟩
  · cases h1
/-- slot i's own thing becomes another, at the same address -/
theorem RepE.mutG (R : RepE C.K C.G H σ ε F P) {a : Addr} {d : D} {o o' : HO} (hs : σ[i]? = some (some (.ref a))) (hF : F i = [a]) (hi : i < ε.length) (hv : H a = some o) (hm : RepM C.K (Own F P) (upd H a o') (C.G i) d (.ref a) [a]) :
    RepE C.K C.G (upd H a o') σ (ε.set i (some d)) F P ∧ Fr F H F (upd H a o') := by
  have oa : Own F P a := .inr ⟨i, by rw [hF]; exact List.mem_singleton.mpr rfl⟩
  refine ⟨⟨by simp [R.len], fun j x e => ?_, fun j no => ?_, R.sep, R.out, fun b z => ?_⟩, fun b u h n => ?_, fun j b z => .inl ⟨j, z⟩, fun b n => ?_⟩
  · by_cases ej : j = i
    · subst ej
      rw [List.getElem?_set_self hi] at e
      cases e
      exact ⟨_, hs, by rw [hF]; exact hm⟩
    · rw [List.getElem?_set_ne (Ne.symm ej)] at e
      obtain ⟨u, hu, r⟩ := R.val j x e
      refine ⟨u, hu, r.move (keeps_upd oa) (fun b z => .inl z) fun b hb o ho => ?_⟩
      rw [upd_ne fun z => ej (R.sep j i b hb (by rw [hF, z]; exact List.mem_singleton.mpr rfl))]
      exact ho
  · by_cases ej : j = i
    · subst ej; exact absurd (List.getElem?_set_self hi) (no _)
    · refine R.non j fun d => ?_
      have := no d
      rwa [List.getElem?_set_ne (Ne.symm ej)] at this
  · by_cases q : b = a
    · rw [q, upd_same]; intro z; cases z
    · rw [upd_ne q]; exact R.dom b z
  · rw [upd_ne fun z => n i (by rw [hF, z]; exact List.mem_singleton.mpr rfl)]
    exact h
  · by_cases q : b = a
    · rw [q, upd_same]; intro z; cases z
    · rw [upd_ne q]; exact n
end
section
variable {X : Cx} {C : Cc} {m mk : M D} {i : Nat}
/-- x.append(e) -/
theorem rs_appX {st : Stmt} (hG : C.G i = .ox) (h : PS X st (tDrop (tBM C.K "list" rAppend (tVar i) (tCons (tE C m) tNil)))) : PS X st (tS C (appX i m)) := PS.mono h fun D σ H ⟨ε, F, P, R, h⟩ => by
  unfold appX at h
  obtain ⟨d0, e0, h1⟩ := (OkS.stp.bd h).rd
  have h2 := h1 H F R Fr.refl
  cases d0 with
  | lst ds =>
    simp only at h2
    unfold appS at h2
    obtain ⟨d1, e1, h3⟩ := (OkS.stp.bd h2).rd
    have h4 := h3 H F R Fr.refl
    rw [e0] at e1
    cases e1
    obtain ⟨a, vs, hs, hF, ha, l, hi⟩ := R.olX hG e0
    refine ⟨.ref a, hs, .inl ⟨rfl, vs, .inl (.inl ha)⟩, ?_⟩
    refine tE.imp (gE_bd OkS.stp R h4) fun v H1 ⟨y, ε1, F1, R1, y1, r1, h5⟩ => ?_
    obtain ⟨d2, e2, h6⟩ := (OkS.stp.bd h5).rd
    have h7 := h6 H1 F1 R1 Fr.refl
    cases d2 with
    | lst ds' =>
      obtain ⟨a', vs', hs', hF', ha', l', hi'⟩ := R1.olX hG e2
      have : a' = a := by rw [hs] at hs'; cases hs'; rfl
      subst this
      simp only at h7
      by_cases hz : ds'.length < LIM
      · rw [if_pos hz] at h7
        simp only [bd, wr, if_pos hi'] at h7
        refine ⟨a', vs', v, rfl, rfl, ha', Nat.lt_of_lt_of_le (by rw [l'.length]; exact hz) (by decide), ?_⟩
        have oa : Own F1 P a' := .inr ⟨i, by rw [hF']; exact List.mem_singleton.mpr rfl⟩
        obtain ⟨R2, y2⟩ := R1.mutG (d := .lst (ds' ++ [y])) (o' := .lst (vs' ++ [v])) hs hF' hi' ha' (by
          rw [hG]
          exact .inl ⟨a', _, _, rfl, rfl, rfl, upd_same, RepL.move (keeps_upd oa) (fun b z => .inl z) _ _ (l'.append (RepL.one r1))⟩)
        exact h7 σ _ F1 R2 y2 Pin.refl
      · rw [if_neg hz] at h7
        exact h7.elim
    | _ => exact h7.elim
  | _ => exact h2.elim
/-- list(d) -/
theorem keys_rep {K : PySem.W.Frag} {O : Addr → Prop} {H : Hp} : ∀ {ks : Ents} {us : List (Key × V)}, RepD K O H ks us → RepL K O H (ks.map (·.1)) (us.map fun kv => kV kv.1)
  | [], _, h => by cases (show _ = [] from h); rfl
  | (k, d) :: ks, _, h => by
    obtain ⟨u, r, rfl, h1, h2⟩ := h
    obtain ⟨⟨n, e1, e2⟩, _⟩ := h1
    refine ⟨_, _, rfl, ?_, keys_rep h2⟩
    subst e1
    show Rep K O H (.int n) (kV u.1)
    rw [e2]
    rfl
theorem cn_keys {K : PySem.W.Frag} : CallN K rListD bKeys := fun O H vs ds d Q dm r e q => by
  unfold bKeys at e
  split at e
  · cases e
    obtain ⟨v, rfl, a, us, rfl, t, l⟩ := wl1 r
    exact ⟨a, us, rfl, t, fun p hp => q p _ _ rfl hp (keys_rep l)⟩
  · cases e
end
theorem swD_true {kx vx : Expr} {gs : List Comprehension} {scope : Scope} {pos py : Pos} {y : Str} {l : Nat} {env : Env} (hk : env.scope.kind = .function) (hy : env.scope.names.lookup y = some .local) (hl : (py.line == pos.line) = true)
    (ha : (scope.names.any fun (n, k) => n == y && (k == .local || k == .cell)) = false) : swapsWith (.DictComp kx vx gs scope pos) (some (.Name y py)) l env = pure true := by
  have ky : env.kindOf y = some .local := hy
  have hb : env.blockKind = .function := by unfold Env.blockKind; rw [hk]; rfl
  unfold swapsWith
  simp only [hb, ky, ha, Expr.pos, hl]
  rfl
end Lk

end
section
set_option maxRecDepth 100000
set_option maxHeartbeats 4000000
/-! Lk25: dicts with numbers as keys: in, d[k], d[k] = v, {}, {k: v}; x += e. -/
namespace Lk
open PySem PySem.Spec PyProof.Rows L2 Cr
section
variable {K : PySem.W.Frag} {O : Addr → Prop} {H : Hp}
theorem dget_of {ks : Ents} {n : Int} {x y : V} (r1 : RepW K O H (.dct ks) x) (r2 : RepW K O H (.int n) y) : ∃ a r, x = .ref a ∧ DGet H a y r ∧ r.isSome = (getE ks n).isSome ∧ ∀ d, getE ks n = some d → ∃ v, r = some v ∧ Rep K O H d v := by
  obtain ⟨a, us, rfl, hU, rd⟩ := r1
  have ey : y = .int n := r2
  refine ⟨a, valV us (Sum.inl n), rfl, .inl ⟨us, Sum.inl n, .inl hU, ey, rfl⟩, ?_, fun d e => ?_⟩
  · have := RepD.get (n := n) rd
    cases e : getE ks n with
    | none => rw [e] at this; simp only at this; rw [this]; rfl
    | some d => rw [e] at this; obtain ⟨x, hx, _⟩ := this; rw [hx]; rfl
  · have := RepD.get (n := n) rd
    rw [e] at this
    exact this
end
section
variable {X : Cx} {C : Cc} {σ : L2.St} {H : Hp} {F : Fp} {P : Addr → Prop} {ε : Sl} {i : Nat} {e o : Expr} {pos : Pos} {oa ob : Opd}
theorem re_din (hu : X.A.units + 1 < cLine) (ha : PE X e (tO C oa)) (hb : PE X o (tO C ob)) (hm : behindInMarks .In o = false) : PE X (.Compare e [.In] [o] pos) (tE C (bin gDin oa ob)) :=
  PE.mono (pe_cmp (pc_din hu ha hb) hm) fun σ H Q h => tO.imp (two h) fun y H1 q => tO.imp q fun x H2 ⟨O, d1, d2, d, dm, r1, r2, e, qq⟩ => by
    unfold gDin at e
    split at e
    · cases e
      obtain ⟨a, r, rfl, g, hs, _⟩ := dget_of r2 r1
      exact ⟨a, r, rfl, g, by rw [hs]; exact qq _ _ (fun _ _ h => h) rfl⟩
    · cases e
theorem re_dni (hu : X.A.units + 1 < cLine) (ha : PE X e (tO C oa)) (hb : PE X o (tO C ob)) (hm : behindInMarks .NotIn o = false) : PE X (.Compare e [.NotIn] [o] pos) (tE C (bin gDni oa ob)) :=
  PE.mono (pe_cmp (pc_dnotin hu ha hb) hm) fun σ H Q h => tO.imp (two h) fun y H1 q => tO.imp q fun x H2 ⟨O, d1, d2, d, dm, r1, r2, e, qq⟩ => by
    unfold gDni at e
    split at e
    · cases e
      obtain ⟨a, r, rfl, g, hs, _⟩ := dget_of r2 r1
      exact ⟨a, r, rfl, g, by rw [hs]; exact qq _ _ (fun _ _ h => h) rfl⟩
    · cases e
theorem re_dix (hu : X.A.units + 1 < cLine) (ho : PE X o (tO C oa)) (hk : PE X e (tO C ob)) (hs : NoSl e) : PE X (.Subscript o e pos) (tE C (bin gDix oa ob)) :=
  PE.mono (pe_dget hu ho hk hs) fun σ H Q h => tO.imp (two h) fun x H1 q => tO.imp q fun y H2 ⟨O, d1, d2, d, dm, r1, r2, e, qq⟩ => by
    unfold gDix at e
    split at e
    · obtain ⟨a, r, rfl, g, _, hv⟩ := dget_of r1 r2
      obtain ⟨v, rfl, rv⟩ := hv d e
      exact ⟨a, v, rfl, g, qq _ _ (fun _ _ h => h) rv⟩
    · cases e
/-- {} -/
theorem rf_newD : PE X (.Dict [] [] pos) (tF C .od newD) := PE.mono pe_dnewK fun σ H Q ⟨ε, F, P, R, h⟩ => fun p hp => by
  have h : OkF C .od σ Q P H F (.ok (.dct []) ε) := h
  have R1 : RepE C.K C.G (upd H p (.dK [])) σ ε F (fun a => P a ∨ a ∈ [p]) := R.ext (same_upd hp) fun a z => z.elim .inl fun z => .inr (by
    rw [List.mem_singleton.mp z]
    exact ⟨hp, by rw [upd_same]; intro z; cases z⟩)
  exact h (.ref p) _ F [p] R1 (Fr.ext (same_upd hp)) (fun a ha => by rw [List.mem_singleton.mp ha]; exact hp) ⟨p, [], [], rfl, rfl, rfl, upd_same, rfl⟩
/-- {k: v} -/
theorem rf_disp1 {kx vx : Expr} {mk mv : M Cr.D} (hk : PE X kx (tE C mk)) (hv : PE X vx (tE C mv)) : PE X (.Dict [some kx] [vx] pos) (tF C .od (dispE mk mv)) :=
  PE.mono (pe_disp (pps_cons hk hv pps_nil) rfl rfl (fun z => by cases z) (by simp)) fun σ H Q ⟨ε, F, P, R, h⟩ => fun p hp => by
    let P' : Addr → Prop := fun a => P a ∨ a ∈ [p]
    have hP' : P' p := .inr (List.mem_singleton.mpr rfl)
    have gP : ∀ a, P' a → P a ∨ H a = none := fun a z => z.elim .inl fun z => .inr (by rw [List.mem_singleton.mp z]; exact hp)
    have R1 : RepE C.K C.G (upd H p (.dK [])) σ ε F P' := R.ext (same_upd hp) fun a z => z.elim .inl fun z => .inr (by
      rw [List.mem_singleton.mp z]
      exact ⟨hp, by rw [upd_same]; intro z; cases z⟩)
    refine ⟨ε, F, P', R1, ?_⟩
    unfold dispE bd at h
    cases e1 : mk ε with
    | exn c e => rw [e1] at h; exact fun H' F' R' y => h H' F' (R'.weakP fun a z => .inl z) ((Fr.ext (same_upd hp)).trans y)
    | bad => rw [e1] at h; exact h.elim
    | ok k ε1 =>
      rw [e1] at h
      intro H1 F1 R2 y1 x rx
      refine ⟨ε1, F1, P', R2, ?_⟩
      simp only at h
      cases e2 : mv ε1 with
      | exn c e => rw [e2] at h; exact fun H' F' R' y => h H' F' (R'.weakP fun a z => .inl z) (((Fr.ext (same_upd hp)).trans y1).trans y)
      | bad => rw [e2] at h; exact h.elim
      | ok v ε2 =>
        rw [e2] at h
        intro H2 F2 R3 y2 z rz
        cases k with
        | int n =>
          have y12 := y1.trans y2
          have hU : H2 p = some (.dK []) := y12.keep p _ upd_same fun i q => R1.out i p q hP'
          have ex : x = .int n := rx
          refine ⟨hU, [(Sum.inl n, z)], by rw [ex]; rfl, by simp, ?_⟩
          have h : OkF C .od σ Q P H F (.ok (.dct [(.int n, v)]) ε2) := h
          have hm : mergeK ([] : List (Key × V)) [(Sum.inl n, z)] = [(Sum.inl n, z)] := rfl
          rw [hm]
          exact h (.ref p) _ F2 [p] (RepE.mutP R3 hP') (((Fr.ext (same_upd hp)).trans y12).mut hp) (fun a ha => by rw [List.mem_singleton.mp ha]; exact hp)
            ⟨p, [(Sum.inl n, z)], _, rfl, rfl, rfl, upd_same, (Sum.inl n, z), [], rfl, ⟨⟨n, rfl, rfl⟩, Rep.move (keeps_upd (.inl hP')) (fun a z => .inl z) _ _ rz⟩, rfl⟩
        | _ => exact h.elim
/-- d[k] = e -/
theorem RepE.od (R : RepE C.K C.G H σ ε F P) (hG : C.G i = .od) {d : Cr.D} (e : ε[i]? = some (some d)) : ∃ a us ks, d = .dct ks ∧ σ[i]? = some (some (.ref a)) ∧ F i = [a] ∧ H a = some (.dK us) ∧ RepD C.K (Own F P) H ks us ∧ i < ε.length := by
  obtain ⟨v, hv, r⟩ := R.val i d e
  rw [hG] at r
  obtain ⟨a, us, ks, rfl, rfl, h1, h2, h3⟩ := r
  exact ⟨a, us, ks, rfl, hv, h1, h2, h3, (List.getElem?_eq_some_iff.mp e).1⟩
theorem rs_putD {st : Stmt} {mk m : M Cr.D} {i : Nat} (hG : C.G i = .od) (h : PS X st (sDPut (tVar i) (tE C mk) (tE C m))) : PS X st (tS C (putS i mk m)) := PS.mono h fun D σ H ⟨ε, F, P, R, h⟩ => by
  unfold putS at h
  refine tE.imp (gE_bd OkS.stp R h) fun v H1 ⟨y, ε1, F1, R1, y1, r1, h1⟩ => ?_
  obtain ⟨d0, e0, h2⟩ := (OkS.stp.bd h1).rd
  obtain ⟨a, us, ks, rfl, hs, hF, ha, l, hi⟩ := R1.od hG e0
  refine ⟨.ref a, hs, ?_⟩
  refine tE.imp (gE_bd OkS.stp R1 (h2 _ _ R1 Fr.refl)) fun w H2 ⟨kd, ε2, F2, R2, y2, r2, h3⟩ => ?_
  obtain ⟨d1, e1, h4⟩ := (OkS.stp.bd h3).rd
  have h5 := h4 _ _ R2 Fr.refl
  obtain ⟨a', us', ks', rfl, hs', hF', ha', l', hi'⟩ := R2.od hG e1
  have : a' = a := by rw [hs] at hs'; cases hs'; rfl
  subst this
  cases kd with
  | int n =>
    simp only at h5
    by_cases hz : ks'.length < LIM
    · rw [if_pos hz] at h5
      simp only [bd, wr, if_pos hi'] at h5
      have ew : w = .int n := r2
      refine ⟨a', _, rfl, .inl ⟨us', Sum.inl n, ha', ew, by rw [l'.length]; exact Nat.lt_of_lt_of_le hz (by decide), rfl⟩, ?_⟩
      have oa : Own F2 P a' := .inr ⟨i, by rw [hF']; exact List.mem_singleton.mpr rfl⟩
      obtain ⟨R3, y3⟩ := R2.mutG (d := .dct (putE ks' n y)) (o' := .dK (putK us' (Sum.inl n) v)) hs hF' hi' ha' (by
        rw [hG]
        exact ⟨a', _, _, rfl, rfl, rfl, upd_same, RepD.put (RepD.move (keeps_upd oa) (fun b z => .inl z) _ _ l') (Rep.move (keeps_upd oa) (fun b z => .inl z) _ _ (y2.rep r1))⟩)
      exact h5 σ _ F2 R3 y3 Pin.refl
    · rw [if_neg hz] at h5
      exact h5.elim
  | _ => exact h5.elim
/-- x op= e, numbers -/
theorem rs_aug {x : Str} {p' : Pos} {op : Operator} {f : Int → Int → Int} {g : Cr.D → Cr.D → Option Cr.D} {m : M Cr.D} {i : Nat} (hN : X.N.Nodup) (hi : X.N[i]? = some x) (hx : Loc X.env.scope x) (hG : C.G i = .dat) (hp : C.pin i = false) (ho : PIp X op (ipI f)) (hg : ∀ x y d, g x y = some d → ∃ a b, x = .int a ∧ y = .int b ∧ d = .int (f a b)) (h : PE X e (tE C m)) (hf : X.fn x = true ∨ X.env.scope.names.lookup x = some .local := by first | exact .inl rfl | exact .inr rfl) :
    PS X (.AugAssign (.Name x p') op e pos) (tS C (augS i g m)) := PS.mono (ps_aug hN hi hx h ho hf) fun D σ H ⟨ε, F, P, R, h⟩ => by
  unfold augS at h
  obtain ⟨d0, e0, h1⟩ := (OkS.stp.bd h).rd
  obtain ⟨v0, hv0, r0⟩ := R.dat e0 hG
  refine ⟨v0, hv0, tE.imp (gE_bd OkS.stp R (h1 _ _ R Fr.refl)) fun v H1 ⟨y, ε1, F1, R1, y1, r1, h2⟩ => ?_⟩
  cases hz : g d0 y with
  | none =>
    have h2 : OkS C D P σ H1 F1 (bd (opt (g d0 y)) (fun z => stT (tgN i z) .nx) ε1) := h2
    rw [hz] at h2
    exact h2.elim
  | some z =>
    have h2 : OkS C D P σ H1 F1 (bd (opt (g d0 y)) (fun z => stT (tgN i z) .nx) ε1) := h2
    rw [hz] at h2
    obtain ⟨a, b, rfl, rfl, rfl⟩ := hg _ _ _ hz
    have ev : v = .int b := r1
    have e0' : v0 = .int a := r0
    refine ⟨a, b, e0', ev, ?_⟩
    have h3 : OkS C D P σ H1 F1 (stT (tgN i (.int (f a b))) .nx ε1) := h2
    unfold stT tgN at h3
    by_cases hi : i < ε1.length
    · rw [if_pos hi] at h3
      exact h3 _ H1 _ (RepE.put R1.nilP (fun a ha => by cases ha) (by rw [hG]; exact ⟨rfl, rfl⟩) hi) (Fr.put Fr.refl fun a ha => by cases ha) (pin_set hp)
    · rw [if_neg hi] at h3
      exact h3.elim
theorem aug_add : ∀ (x y d : Cr.D), gAddI x y = some d → ∃ a b, x = .int a ∧ y = .int b ∧ d = .int (a + b) := fun x y d h => by
  unfold gAddI at h
  split at h
  · cases h; exact ⟨_, _, rfl, rfl, rfl⟩
  · cases h
theorem aug_sub : ∀ (x y d : Cr.D), Cr.gSub x y = some d → ∃ a b, x = .int a ∧ y = .int b ∧ d = .int (a - b) := fun x y d h => by
  unfold Cr.gSub at h
  split at h
  · cases h; exact ⟨_, _, rfl, rfl, rfl⟩
  · cases h
end
end Lk

end
section
set_option maxRecDepth 100000
set_option maxHeartbeats 4000000
/-! Lk26: sorted({..}) of numbers. -/
namespace Lk
open PySem PySem.Spec PyProof.Rows L2 Cr
def emSr (w : World) (te : TE) (D : Addr) : TM := fun σ H N => te σ H fun y H1 => ∃ k S n, y = .int k ∧ H1 D = some (SetO w D S n) ∧ n + 1 < scanBound ∧ N (upd H1 D (SetO w D (fun j => S j || decide (j = k)) (if S k = true then n else n + 1)))
section
variable {X : Cx} {elt : Expr} {te : TE}
theorem pm_S {D : Addr} (hxe : X.xe = fun _ _ => False) (hk : PE X elt te) : PMb X (emS elt (.ref D) X.env) [] (emSr X.w te D) := by
  intro pins s σ H N E I h K Q' hK
  have r1 := hk.run pins s σ H _ I h
  rw [hxe] at r1
  unfold emS
  refine wpAny_bind (wpAny_bind (thnF r1 fun v s1 ⟨y, H1, I1, ry, k, S, n, ek, hD, room, nx⟩ => ?_))
  subst ek
  refine wpAny_bind (wpAny_standAt (wpAny_bind ?_))
  have z := mt_sadd pins s1 σ H1 (.ref D) [.int k] (.ref D) [v] (fun _ H' => N H') I1 rfl (.cons ry .nil) ⟨D, k, S, n, rfl, rfl, hD, room, nx⟩
  rw [hxe] at z
  exact thnF z fun _ s2 ⟨_, H2, I2, _, nx⟩ => wpAny_pure (hK s2 ⟨H2, I2, nx⟩)
end
/-! ### members -/
def memB (L : List Int) : Int → Bool := fun j => decide (j ∈ L)
def RAs (w : World) (D : Addr) (_O : Addr → Prop) (_H : Hp) (acc : List Int) (o : HO) : Prop := o = SetO w D (memB acc) acc.length ∧ acc.Nodup ∧ acc.length ≤ 50
theorem mv_RAs {w : World} {D : Addr} : MvA (RAs w D) := fun _ _ _ _ _ _ _ _ h => h
theorem mem_addI {L : List Int} {n z : Int} : z ∈ addI L n ↔ z ∈ L ∨ z = n := by
  unfold addI
  split
  · rename_i h
    exact ⟨.inl, fun q => q.elim id fun q => q ▸ h⟩
  · simp
theorem memB_add (L : List Int) (n : Int) : (fun j => memB L j || decide (j = n)) = memB (addI L n) := by
  funext j
  unfold memB
  rw [Bool.eq_iff_iff]
  simp only [Bool.or_eq_true, decide_eq_true_eq]
  exact mem_addI.symm
theorem len_add (L : List Int) (n : Int) : (if memB L n = true then L.length else L.length + 1) = (addI L n).length := by
  unfold addI memB
  by_cases h : n ∈ L
  · rw [if_pos (decide_eq_true h), if_pos h]
  · rw [if_neg (by simpa using h), if_neg h]; simp
theorem nd_add {L : List Int} {n : Int} (h : L.Nodup) : (addI L n).Nodup := by
  unfold addI
  split
  · exact h
  · rename_i hn
    rw [List.nodup_append]
    exact ⟨h, by simp, by rintro x hx y hy rfl; simp at hy; exact hn (hy ▸ hx)⟩
section
variable {C : Cc} {x : M Cr.D} {D : Addr} {w : World}
theorem emI_run : EmS C [] (RAs w D) (emI x) D (emSr w (tE C x) D) := by
  intro σ H H0 N ε F F0 P acc o R y0 hD0 hPD hU hA h
  obtain ⟨eo, nd, _⟩ := hA
  subst eo
  refine ⟨ε, F, P, R, ?_⟩
  unfold emI bd at h
  cases e1 : x ε with
  | exn k e => rw [e1] at h; exact h.elim
  | bad => rw [e1] at h; exact h.elim
  | ok k ε1 =>
    rw [e1] at h
    intro H1 F1 R1 y1 v rv
    cases k with
    | int n =>
      simp only at h
      by_cases hl : acc.length < 50
      · rw [if_pos hl] at h
        have hU1 : H1 D = some (SetO w D (memB acc) acc.length) := y1.keep D _ hU fun i q => R.out i D q hPD
        have ev : v = .int n := rv
        refine ⟨n, memB acc, acc.length, ev, hU1, Nat.lt_of_lt_of_le (show acc.length + 1 < 52 by omega) (by decide), ?_⟩
        rw [memB_add, len_add]
        refine h _ F1 _ (RepE.mutP R1 hPD) ((y0.trans y1).mut hD0) ?_ ?_ upd_same ⟨rfl, nd_add nd, by rw [← len_add]; split <;> omega⟩
        · exact kp_trans y1.keeps y1.grows (keeps_upd (.inl hPD))
        · exact gr_trans y1.keeps y1.grows fun a z => .inl z
      · rw [if_neg hl] at h; exact h.elim
    | _ => exact h.elim
/-- the set is gathered, then sorted: what is wished of the sorted list, wished at the set's end -/
theorem co_runS {α : Type} {out : α → Cr.D} {a0 : α} {vs ve : List Nat} {t : Tg} {c : M Bool} {em : α → M α} {o0 : Addr → HO} {md : Md} {it : M (List Cr.D)} {emR : Addr → TM} {σ : L2.St} {H : Hp} {Q Qm : VK} {RA : Addr → (Addr → Prop) → Hp → α → HO → Prop} (hG : ∀ v ∈ vs, C.G v = .dat) (hRA : ∀ D, MvA (RA D))
    (hve : ∀ i ∈ ve, i ∈ vs) (h0 : ∀ D O H, RA D O H a0 (o0 D)) (hE : ∀ D, EmS (C.blk vs) ve (RA D) em D (emR D))
    (hfin : ∀ {P : Addr → Prop} {H' : Hp} {F' : Fp} {ε' : Sl} {a : α} {o : HO} {D : Addr}, RepE C.K C.G H' σ ε' F' P → H' D = some o → RA D (Own F' P) H' a o → OkF C md σ Q P H' F' (.ok (out a) ε') → Qm (.ref D) H')
    (h : tF C md (coE out a0 vs it t c em) σ H Q) : tCo o0 (tI C it) (tG (C.blk vs) t) (tT (C.blk vs) c) emR vs σ H Qm := by
  obtain ⟨ε, F, P, R, h⟩ := h
  refine ⟨ε, F, P, R, ?_⟩
  unfold coE bd at h
  cases e : it ε with
  | exn k e1 => rw [e] at h; exact h
  | bad => rw [e] at h; exact h
  | ok ds e1 =>
    rw [e] at h
    intro J H1 F1 R1 y1 w D hD
    have h1 := OkF.stp.step _ _ _ _ _ h y1
    clear h
    cases ec : compG vs t c em ds a0 e1 with
    | exn k e2 => simp only [ec] at h1; exact h1.elim
    | bad => simp only [ec] at h1; exact h1.elim
    | ok accN e2 =>
    simp only [ec] at h1
    let P' : Addr → Prop := fun a => P a ∨ a ∈ [D]
    have hP' : P' D := .inr (List.mem_singleton.mpr rfl)
    have gP : ∀ a, P' a → P a ∨ H1 a = none := fun a z => z.elim .inl fun z => .inr (by rw [List.mem_singleton.mp z]; exact hD)
    have R2 : RepE C.K C.G (upd H1 D (o0 D)) σ e1 F1 P' := R1.ext (same_upd hD) fun a z => z.elim .inl fun z => .inr (by
      rw [List.mem_singleton.mp z]
      exact ⟨hD, by rw [upd_same]; intro z; cases z⟩)
    have gg : Grows (Own F1 P) (Own F1 P') H1 := fun a z => by
      rcases z with z | z
      · exact (gP a z).elim (fun z => .inl (.inl z)) .inr
      · exact .inl (.inr z)
    refine cl_loop (H := upd H1 D (o0 D)) hG (hRA D) hve (hE D) w ec R2 (Fr.ext (same_upd hD)) hD hP' (fun a u q _ => same_upd hD a u q) gg upd_same (h0 _ _ _) fun H' F' o' R' y' k' g' hU' hA' => ?_
    have R3 := RepE.rest R1 R' y' hG gP
    exact hfin (R3.weakP fun a z => .inl z) hU' (hRA D _ _ _ _ _ _ Keeps.rfl' (fun a z => z.elim (fun z => .inl (.inl (.inl z))) fun z => .inl (.inr z)) hA') (OkF.stp.step _ _ _ _ _ h1 y')
theorem ras0 (D : Addr) (O : Addr → Prop) (H : Hp) : RAs w D O H [] (SetO w D (memB []) 0) := ⟨rfl, .nil, by simp⟩
end
section
variable {X : Cx} {C : Cc} {elt tg iter tg1 iter1 : Expr} {ifs ifs1 : List Expr} {scope : Scope} {own : List (Str × Nat)} {pos : Pos} {it it1 : M (List D)} {t t1 : Tg} {c c1 : M Bool} {x : M D} {vs vs1 : List Nat}
theorem sc_new {w : World} (H : Hp) (h : Heap) : ObjOk X.prog w H (h.push { cls := .type "set", dict := none, data := .set #[] 0 (.fresh 0 0 (!w.params.followText "set-order")) }) h.objs.size (SetO w h.objs.size (memB []) 0) := by
  refine setO_new (SetR.congr (setR_fresh w) fun k => ?_)
  simp [memB]
theorem fin_S {σ : L2.St} {Q : VK} {P : Addr → Prop} {H' : Hp} {F' : Fp} {ε' : Sl} {a : List Int} {o : HO} {D : Addr} (R : RepE C.K C.G H' σ ε' F' P) (hU : H' D = some o) (hA : RAs X.w D (Own F' P) H' a o) (h : OkF C .ol σ Q P H' F' (.ok (outS a) ε')) : rSortedSet X.w [.ref D] H' Q := by
  obtain ⟨eo, nd, hl⟩ := hA
  subst eo
  refine ⟨D, memB a, a.length, rfl, hU, by omega, fun ns p hw hm hlen hp => ?_⟩
  have e2 : ns = usort a := pw_lt_eq (fun z => by rw [hm z, usort_mem]; unfold memB; simp) hw (usort_pw a)
  subst e2
  exact finF R h rfl (ints_back _) hp
theorem rf_ss {q p : Pos} (hc : X.calm = true) (hg1 : Gl X "sorted") (hm1 : X.mg "sorted" = none) (hN : X.N.Nodup) (hi : PI X tg iter (tI C it)) (ok : BlkOk X.N X.env.scope scope own) (hv : own.map (·.2) = vs) (hG : ∀ v ∈ vs, C.G v = .dat)
    (hg : InB X scope fun Y => PG Y tg (tG (C.blk vs) t)) (ht : InB X scope fun Y => PTs Y ifs (tT (C.blk vs) c)) (hx : InB X scope fun Y => PE Y elt (tE (C.blk vs) x)) (hs : ∀ x, foldedSetIterable iter X.env x = pure x := by intro _; rfl)
    (he : starEach (.SetComp elt [⟨tg, iter, ifs, 0⟩] scope pos :: []) X.env = (false, eval (.SetComp elt [⟨tg, iter, ifs, 0⟩] scope pos) X.env) :: starEach [] X.env := by rfl) :
    PE X (.Call (.Name "sorted" p) [.SetComp elt [⟨tg, iter, ifs, 0⟩] scope pos] [] q) (tF C .ol (ssE vs it t c x)) := by
  subst hv
  have hsc : PE X (.SetComp elt [⟨tg, iter, ifs, 0⟩] scope pos) (tCo (fun D => SetO X.w D (memB []) 0) (tI C it) (tG (C.blk (own.map (·.2))) t) (tT (C.blk (own.map (·.2))) c) (emSr X.w (tE (C.blk (own.map (·.2))) x)) (own.map (·.2))) := by
    refine ⟨fun pins s σ H Q I h => ?_⟩
    rw [arm_eval_SetComp]
    refine co_core (obj := { cls := .type "set", dict := none, data := .set #[] 0 (.fresh 0 0 (!X.w.params.followText "set-order")) }) (emit := fun D env => emS elt (.ref D) env) (ve := []) hc hN I hi ok rfl (fun s Q q => PpSet.newSet_ok q) (fun H h _ => sc_new H h) (fun D env => cl_S1 ..) hg ht (fun D s H L cl fp => pm_S rfl (hx s H L cl fp)) (by simp) hs h fun D L s' m H' I' q hn f => ⟨m, hn, fun h'' sb => ?_⟩
    obtain ⟨f0, f1, f2, f3, f4, f5⟩ := f
    exact ⟨.ref D, H', I'.turned (t' := s'.toks) (fun b o hb z => (sb.2 b hb).trans z) f0 f1 f3 f4 f5, rfl, q⟩
  exact PE.mono (pe_callB (cr_sortedSet hc) hg1 hm1 (by decide +kernel) (pa_cons hsc pa_nil he) (by decide) (by decide) he (by rfl)) fun σ H Q h =>
    co_runS (Qm := fun v H1 => rSortedSet X.w [v] H1 Q) (out := outS) (emR := emSr X.w (tE (C.blk _) x)) (RA := RAs X.w) hG (fun _ => mv_RAs) (ve := []) (by simp) ras0 (fun D => emI_run) (fun R hU hA h => fin_S R hU hA h) h
theorem rf_ss2 {q p : Pos} (hc : X.calm = true) (hg1 : Gl X "sorted") (hm1 : X.mg "sorted" = none) (hN : X.N.Nodup) (hi : PI X tg iter (tI C it)) (ok : BlkOk X.N X.env.scope scope own) (hv : own.map (·.2) = vs) (hG : ∀ v ∈ vs, C.G v = .dat) (hsub : ∀ i ∈ vs1, i ∈ vs)
    (hg : InB X scope fun Y => PG Y tg (tG (C.blk vs) t)) (ht : InB X scope fun Y => PTs Y ifs (tT (C.blk vs) c)) (hi1 : InB X scope fun Y => PI Y tg1 iter1 (tI (C.blk vs) it1)) (hg1' : InB X scope fun Y => PG Y tg1 (tG (C.blk vs1) t1)) (ht1 : InB X scope fun Y => PTs Y ifs1 (tT (C.blk vs1) c1))
    (hx : InB X scope fun Y => PE Y elt (tE (C.blk vs1) x)) (hs : ∀ x, foldedSetIterable iter X.env x = pure x := by intro _; rfl) (hs1 : ∀ env x, foldedSetIterable iter1 env x = pure x := by intro _ _; rfl)
    (he : starEach (.SetComp elt [⟨tg, iter, ifs, 0⟩, ⟨tg1, iter1, ifs1, 0⟩] scope pos :: []) X.env = (false, eval (.SetComp elt [⟨tg, iter, ifs, 0⟩, ⟨tg1, iter1, ifs1, 0⟩] scope pos) X.env) :: starEach [] X.env := by rfl) :
    PE X (.Call (.Name "sorted" p) [.SetComp elt [⟨tg, iter, ifs, 0⟩, ⟨tg1, iter1, ifs1, 0⟩] scope pos] [] q) (tF C .ol (ss2E vs it t c vs1 it1 t1 c1 x)) := by
  subst hv
  have hsc : PE X (.SetComp elt [⟨tg, iter, ifs, 0⟩, ⟨tg1, iter1, ifs1, 0⟩] scope pos) (tCo (fun D => SetO X.w D (memB []) 0) (tI C it) (tG (C.blk (own.map (·.2))) t) (tT (C.blk (own.map (·.2))) c)
      (fun D => tIn (tI (C.blk (own.map (·.2))) it1) (tG (C.blk vs1) t1) (tT (C.blk vs1) c1) (emSr X.w (tE (C.blk vs1) x) D) vs1) (own.map (·.2))) := by
    refine ⟨fun pins s σ H Q I h => ?_⟩
    rw [arm_eval_SetComp]
    refine co_core (obj := { cls := .type "set", dict := none, data := .set #[] 0 (.fresh 0 0 (!X.w.params.followText "set-order")) }) (emit := fun D env => emN (.SetComp elt [⟨tg, iter, ifs, 0⟩, ⟨tg1, iter1, ifs1, 0⟩] scope pos) iter1 (.ref D) env) (ve := vs1) hc hN I hi ok rfl (fun s Q q => PpSet.newSet_ok q) (fun H h _ => sc_new H h) (fun D env => cl_S2o ..) hg ht
      (fun D s H L cl fp => pm_in hc rfl (cl_S2i ..) (hi1 s H L cl fp) (hg1' s H L cl fp) (ht1 s H L cl fp) (pm_S (D := D) rfl (hx s H L cl fp)) (by simp) (hs1 _)) hsub hs h fun D L s' m H' I' q hn f => ⟨m, hn, fun h'' sb => ?_⟩
    obtain ⟨f0, f1, f2, f3, f4, f5⟩ := f
    exact ⟨.ref D, H', I'.turned (t' := s'.toks) (fun b o hb z => (sb.2 b hb).trans z) f0 f1 f3 f4 f5, rfl, q⟩
  exact PE.mono (pe_callB (cr_sortedSet hc) hg1 hm1 (by decide +kernel) (pa_cons hsc pa_nil he) (by decide) (by decide) he (by rfl)) fun σ H Q h =>
    co_runS (Qm := fun v H1 => rSortedSet X.w [v] H1 Q) (out := outS) (emR := fun D => tIn (tI (C.blk _) it1) (tG (C.blk vs1) t1) (tT (C.blk vs1) c1) (emSr X.w (tE (C.blk vs1) x) D) vs1) (RA := RAs X.w) hG (fun _ => mv_RAs) (ve := vs1) hsub ras0 (fun D => emIn_run (C := C.blk _) (fun v hv => hG v (hsub v hv)) mv_RAs (ve := []) (by simp) emI_run) (fun R hU hA h => fin_S R hU hA h) h
end
end Lk

end
section
set_option maxRecDepth 100000
set_option maxHeartbeats 4000000
/-! Lk27: enumerate(xs), xs a list or a tuple that is data. -/
namespace Lk
open PySem PySem.Spec PyProof.Rows L2 Cr
theorem hu1 {k : Nat} {A : Around} (r : RoomG k A) : A.units + 1 < cLine := by have := r.un; omega
/-- the pairs that the tuple at a gives -/
def IteT (K : PySem.W.Frag) (a : Addr) : It where
  go i H := ∃ (xs : List V) (x : V), SqT K H a xs ∧ xs[i]? = some x
  yld i H v H' := ∃ T x, v = .ref T ∧ H T = none ∧ H' = upd H T (.tup [.int (i : Nat), x]) ∧ ∀ xs, SqT K H a xs → xs[i]? = some x
  stop i H := ∃ xs : List V, SqT K H a xs ∧ xs.length ≤ i
section
variable {P : Program} {w : World} {K : PySem.W.Frag}
theorem turn_enumT {elts : List Expr} {kk : Nat} {tpos : Pos} (a e it : Addr) :
    Turn P w K (.Tuple elts kk tpos) (IteT K a) [e, it] e (fun i h => (∃ old, IsEnum h e it ((i : Nat) : Int) old) ∧ h.IsTupleIter it a i ∧ e ≠ it) := by
  refine ⟨by simp, fun i h st b hb => ?_, fun i h h' st k => ?_, ?_, ?_, fun A i s Q E st h => ?_⟩
  · obtain ⟨⟨old, he⟩, ⟨o, ho, hc, hd⟩, _⟩ := st
    rcases (by simpa using hb : b = e ∨ b = it) with z | z
    · subst z; exact ⟨_, he, fun v q => nomatch q⟩
    · subst z; exact ⟨o, ho, fun v q => by rw [hd] at q; cases q⟩
  · obtain ⟨⟨old, he⟩, hi, hne⟩ := st
    exact ⟨⟨old, k e (by simp) _ he⟩, hi.at fun o q => k it (by simp) o q, hne⟩
  · intro X hP hw hK hc i pins s σ H E I hf st hg
    subst hP hw hK
    obtain ⟨⟨old, he⟩, hit, hne⟩ := st
    obtain ⟨xs, x, hq, hx⟩ := hg
    obtain ⟨its, rv, p, hz⟩ := I.tuple hq
    obtain ⟨u, hu, ru⟩ := rv.get hx
    have hi : i < its.toArray.size := by simpa using (List.getElem?_eq_some_iff.mp hu).1
    have al : a < s.heap.objs.size := Heap.lt_size p.choose_spec.1
    have hel : e < s.heap.objs.size := Heap.lt_size he
    have hil : it < s.heap.objs.size := by obtain ⟨_, q, _⟩ := hit; exact Heap.lt_size q
    have nei : a ≠ it := by
      rintro rfl
      obtain ⟨o, q1, q2, _⟩ := hit
      obtain ⟨o', q3, q4, _⟩ := p
      rw [q1] at q3; cases q3
      rw [q2] at q4; injection q4 with z; exact absurd z (by decide)
    have nee : a ≠ e := by
      rintro rfl
      obtain ⟨o', q3, q4, _⟩ := p
      rw [he] at q3; cases q3
      injection q4 with z; exact absurd z (by decide)
    have hh : X.A.in1.handled = none := I.ok.hd hc
    refine wpAny_pyNext_enum_itemD (Draws.tuple (prog := X.prog) (w := X.w) hh it a nei its.toArray) he ⟨hit, p⟩ hi hne (by simp [hne, Ne.symm nee]) fun y h' tk py ho st' hT hsz hk => ?_
    have ey : y = u := by
      have py : its.toArray[i]? = some y := py
      rw [List.getElem?_toArray, hu] at py
      exact (Option.some.inj py).symm
    subst ey
    refine ⟨_, rfl, wpAny_letOwnedTupleGo_enum (s := { s with heap := h', toks := tk + 1 }) ho fun h'' he' sb => ?_⟩
    have hT2 : h''.get? s.heap.objs.size = some { cls := .type "tuple", data := .seq #[.int i tk, y] } := (sb.2 _ (Nat.ne_of_gt hel)).trans hT
    have new : ObjOk X.prog X.w (upd H s.heap.objs.size (.tup [.int (i : Nat), x])) h'' s.heap.objs.size (.tup [.int (i : Nat), x]) :=
      ⟨by show 2 ≤ sizeLine; decide, [.int i tk, y], .cons ⟨_, rfl⟩ (.cons ru .nil), ⟨_, hT2, rfl, _, rfl⟩⟩
    have keep : ∀ b ob, b ∉ [e, it] → s.heap.get? b = some ob → h''.get? b = some ob := fun b ob hb q => by
      simp only [List.mem_cons, List.not_mem_nil, or_false, not_or] at hb
      exact (sb.2 b hb.1).trans (hk b ob hb.1 hb.2 q)
    have I1 := I.turnedNew (ch := [e, it]) (t' := tk + 1) keep hf (Nat.le_refl _) new
    refine ⟨.ref s.heap.objs.size, _, I1, rfl, ⟨_, x, rfl, I.hok.fresh (Nat.le_refl _), rfl, fun ys hy => by rw [I.tuple_inj hy hq]; exact hx⟩, ⟨⟨y, ?_⟩, st'.1.at fun o q => (sb.2 it (Ne.symm hne)).trans q, hne⟩, fun b hb => ?_⟩
    · have e1 : ((i + 1 : Nat) : Int) = (i : Int) + 1 := by omega
      rw [e1]; exact he'
    · have hb' : b < s.heap.objs.size := by
        rcases (by simpa using hb : b = e ∨ b = it) with z | z <;> (subst z; assumption)
      rw [upd_ne (Nat.ne_of_lt hb')]
      exact (hf b hb).1
  · intro X hP hw hK hc i pins s σ H E I hf st hg
    subst hP hw hK
    obtain ⟨⟨old, he⟩, hit, hne⟩ := st
    obtain ⟨xs, hq, hx⟩ := hg
    obtain ⟨its, rv, p, hz⟩ := I.tuple hq
    obtain ⟨f0, f1, f2, f3, f4, f5⟩ := hf it (by simp)
    have hl := rv.length
    have hh : X.A.in1.handled = none := I.ok.hd hc
    have hT : s.TypeIs (.ref e) "enumerate" := ⟨_, he, rfl⟩
    refine wpAny_bind (wpAny_attempt (wpAny_callSpecial?_slot (name := Str.ofString "__next__") hT F.slot_enumerate_next
      (wpAny_call_entry F.slot_enumerate_next hT F.entry_enumerate_next ?_ (F.args_enumerate_next_1 _))))
    (show wpAny _ _ (field (.ref e) 2 >>= _) _ _ _); refine wpAny_bind (wpAny_field he rfl (x := .ref it) rfl ?_)
    refine wpAny_bind (wpAny_nextOf_tuple_end hh hit p (by simp; omega) fun h' x he' hx' => ?_)
    obtain ⟨o, ho, hc'⟩ := hx'
    refine wpAny_bind (wpAny_isInstance (T := "StopIteration") (b := true) ⟨o, ho, hc'⟩ isSubtype_stop ?_)
    exact wpAny_pure ⟨rfl, I.turned (t' := s.toks) (fun b o hb q => he' b o hb q) f0 f1 f3 f4 f5⟩
  · obtain ⟨⟨_, he⟩, _⟩ := st
    exact wpAny_pyIter_enum he h
theorem meets_en1 {v : Value} {o : Obj} {Hh : Heap → Prop} (B : Begins v o Hh) : Meets (Builtin.«enumerate.__new__» ⟨[.type "enumerate", v], []⟩) (fun _ R s => Hh s.heap ∧
      R (.ok (.ret (.ref (s.heap.push o).objs.size))) { s with heap := (s.heap.push o).push { cls := .type "enumerate", data := .fields #[.none, .bool false, .ref s.heap.objs.size, rawInt 0, .none, .none] } }) :=
  .of_wp fun prog w A R s h => by
    obtain ⟨hp, g, d, tk, os⟩ := s
    obtain ⟨h1, h⟩ := h
    have hsub := sub_enumerate
    have q1 : ∀ {A' : Around} {E : Value → Shared → Prop} {Q : Value → Shared → Prop}, Q (.ref hp.objs.size) ⟨hp.push o, g, d, tk, os⟩ → wpAny (model prog w) A' (pyIter v) Q E ⟨hp, g, d, tk, os⟩ :=
      fun q => B.iter prog w _ _ ⟨hp, g, d, tk, os⟩ _ h1 q
    wp_walk using q1
    refine wpAny_stack_any fun st => wpAny_pure ?_
    split
    · rename_i c _ _ _ _ _
      cases (c == Value.type "enumerate") <;> (wp_walk using q1; exact ⟨_, rfl, h⟩)
    · wp_walk using q1
      exact ⟨_, rfl, h⟩
theorem en1_begins {A : Around} {E : Value → Shared → Prop} {s : Shared} {v : Value} {o : Obj} {Hh : Heap → Prop} {Q : Value → Shared → Prop} (B : Begins v o Hh) (h1 : Hh s.heap)
    (h : ∀ h', IsEnum h' (s.heap.objs.size + 1) s.heap.objs.size 0 .none → h'.get? s.heap.objs.size = some o → (∀ b o, s.heap.get? b = some o → h'.get? b = some o) → Q (.ref (s.heap.objs.size + 1)) { s with heap := h' }) :
    wpAny (model P w) A (call (.type "enumerate") [v]) Q E s := by
  refine callType_new F.called_enumerate (by decide) (F.typeCall_enumerate_1 _) (F.newCall_enumerate_1 _) (fun obj => F.args_object_init_2 obj _) F.entry_enumerate_new (meets_en1 B) ⟨h1, ?_⟩
  have hz : (s.heap.push o).objs.size = s.heap.objs.size + 1 := Heap.size_push ..
  show _ ∧ _
  rw [hz]
  generalize ho : ({ cls := .type "enumerate", data := .fields #[.none, .bool false, .ref s.heap.objs.size, rawInt 0, .none, .none] } : Obj) = o2
  have he : ((s.heap.push o).push o2).get? (s.heap.objs.size + 1) = some o2 := by
    have := Heap.get?_push_size (s.heap.push o) (o := o2) (by rw [← ho]; rfl)
    rwa [hz] at this
  subst ho
  exact ⟨⟨_, he, rfl⟩, h _ he (Heap.get?_push_of_some _ (Heap.get?_push_size _ B.free)) fun b o x => Heap.get?_push_of_some _ (Heap.get?_push_of_some _ x)⟩
end
def iEnumA (K : PySem.W.Frag) (te : TE) : TI := fun σ H R => te σ H fun x H1 => ∃ a, x = .ref a ∧ (((∃ xs, SqL K H1 a xs) ∧ R (Ite K a) H1) ∨ ((∃ xs, SqT K H1 a xs) ∧ R (IteT K a) H1))
section
variable {X : Cx} {C : Cc} {e : Expr} {p pos tpos : Pos} {elts : List Expr} {kk : Nat}
theorem pi_enumA {te : TE} (hg : Gl X "enumerate") (hm : X.mg "enumerate" = none) (he : PE X e te) (hs : starEach [e] X.env = [(false, eval e X.env)] := by rfl) :
    PI X (.Tuple elts kk tpos) (.Call (.Name "enumerate" p) [e] [] pos) (iEnumA X.K te) := by
  refine ⟨fun pins s σ H R I h => ?_⟩
  have ha : PA X [e] (tCons te tNil) := pa_cons he pa_nil (by rw [hs]; rfl)
  refine Call_ (ld_blt I hg hm boot_enumerate (PyProof.Rows.callWith_type1 (thn (ha.run pos pins s σ H (fun vs H1 => match vs with | [x] => (∃ a, x = .ref a ∧ (((∃ xs, SqL X.K H1 a xs) ∧ R (Ite X.K a) H1) ∨ ((∃ xs, SqT X.K H1 a xs) ∧ R (IteT X.K a) H1))) | _ => False) I h) fun us s1 ⟨vs, H1, I1, r1, q1⟩ => ?_) hs rfl))
  · match vs, q1 with
    | [x], q1 =>
      obtain ⟨a, rfl, q⟩ := q1
      obtain ⟨u0, rfl, r⟩ := r1.one
      cases r
      have fin : ∀ {J : It} {tn : Nat → Heap → Prop} {h' : Heap}, (∀ b o, s1.heap.get? b = some o → h'.get? b = some o) → IsEnum h' (s1.heap.objs.size + 1) s1.heap.objs.size 0 .none → Turn X.prog X.w X.K (.Tuple elts kk tpos) J [s1.heap.objs.size + 1, s1.heap.objs.size] (s1.heap.objs.size + 1) tn → tn 0 h' → R J H1 →
          wpAny (model X.prog X.w) X.A (pyIter (.ref (s1.heap.objs.size + 1))) (PIE X pins σ (.Tuple elts kk tpos) R) X.xe { s1 with heap := h' } := fun hk hen T t0 q => by
        refine wpAny_pyIter_enum hen ?_
        refine ⟨_, _, _, _, H1, rfl, I1.kept (t' := s1.toks) hk, T, t0, fun b hb => ?_, q⟩
        have hle : s1.heap.objs.size ≤ b := by
          rcases (by simpa using hb : b = s1.heap.objs.size + 1 ∨ b = s1.heap.objs.size) with z | z
          · rw [z]; exact Nat.le_add_right _ _
          · rw [z]; exact Nat.le_refl _
        exact I1.fpOk hle (I1.hok.fresh hle)
      rcases q with ⟨⟨xs, hq⟩, q⟩ | ⟨⟨xs, hq⟩, q⟩
      · obtain ⟨its, rv, pl, hz⟩ := I1.list hq
        exact en1_begins (begins_list a its.toArray) pl.isList fun h' he hit hk => fin hk he (turn_enum a _ _) ⟨⟨_, he⟩, ⟨_, hit, rfl, rfl⟩, Nat.succ_ne_self _⟩ q
      · obtain ⟨its, rv, pl, hz⟩ := I1.tuple hq
        exact en1_begins (begins_tuple a its.toArray) pl fun h' he hit hk => fin hk he (turn_enumT a _ _) ⟨⟨_, he⟩, ⟨_, hit, rfl, rfl⟩, Nat.succ_ne_self _⟩ q
theorem en_walks {K : PySem.W.Frag} {H : Hp} {O : Addr → Prop} {a : Addr} {vs : List V} {ds : List D} (hl : LstA K O H a vs) (r : RepL K O H ds vs) : Walks K (Ite K a) H O (enumD ds) := fun H1 O1 k g dm i => by
  have q : SqL K H1 a vs := (hl.move k g).sq
  have r1 : RepL K O1 H1 ds vs := RepL.move k g _ _ r
  refine ⟨fun d hd => ?_, fun hn => ⟨vs, q, by rw [r.length]; simpa [enumD] using hn⟩⟩
  obtain ⟨d0, h0, rfl⟩ := enumD_get hd
  obtain ⟨v, hv, rv⟩ := r1.get h0
  refine ⟨⟨vs, v, q, hv⟩, fun x H' ⟨T, y, e1, hT, e2, hy⟩ => ?_⟩
  subst e1 e2
  have : v = y := Option.some.inj (hv.symm.trans (hy vs q))
  subst this
  exact ⟨same_upd hT, rep_tup dm ⟨_, _, rfl, rfl, RepL.one rv⟩ hT⟩
theorem en_walksT {K : PySem.W.Frag} {H : Hp} {O : Addr → Prop} {a : Addr} {vs : List V} {ds : List D} (hl : TupA K O H a vs) (r : RepL K O H ds vs) : Walks K (IteT K a) H O (enumD ds) := fun H1 O1 k g dm i => by
  have q : SqT K H1 a vs := (hl.move k g).sq
  have r1 : RepL K O1 H1 ds vs := RepL.move k g _ _ r
  refine ⟨fun d hd => ?_, fun hn => ⟨vs, q, by rw [r.length]; simpa [enumD] using hn⟩⟩
  obtain ⟨d0, h0, rfl⟩ := enumD_get hd
  obtain ⟨v, hv, rv⟩ := r1.get h0
  refine ⟨⟨vs, v, q, hv⟩, fun x H' ⟨T, y, e1, hT, e2, hy⟩ => ?_⟩
  subst e1 e2
  have : v = y := Option.some.inj (hv.symm.trans (hy vs q))
  subst this
  exact ⟨same_upd hT, rep_tup dm ⟨_, _, rfl, rfl, RepL.one rv⟩ hT⟩
theorem ri_enum {m : M D} (hX : X.K = C.K) (hg : Gl X "enumerate") (hm : X.mg "enumerate" = none) (h : PE X e (tE C m)) (hs : starEach [e] X.env = [(false, eval e X.env)] := by rfl) :
    PI X (.Tuple elts kk tpos) (.Call (.Name "enumerate" p) [e] [] pos) (tI C (enE m)) := PI.mono (pi_enumA hg hm h hs) fun σ H R ⟨ε, F, P, Re, q⟩ =>
  tE.imp (gE_bd OkI.stp Re q) fun v H1 ⟨d, ε1, F1, R1, y1, r1, h1⟩ => by
    obtain ⟨ds, e, k⟩ := OkI.opt h1 R1
    rw [hX]
    cases d with
    | lst xs =>
      cases e
      obtain ⟨a, vs, rfl, t, rl⟩ := r1
      exact ⟨a, rfl, .inl ⟨⟨vs, t.sq⟩, k _ (en_walks t rl)⟩⟩
    | tup xs =>
      cases e
      obtain ⟨a, vs, rfl, t, rl⟩ := r1
      exact ⟨a, rfl, .inr ⟨⟨vs, t.sq⟩, k _ (en_walksT t rl)⟩⟩
    | _ => cases e
end
end Lk

end
section
set_option maxRecDepth 100000
set_option maxHeartbeats 4000000
/-! Lk28: dicts whose keys are tuples. -/
namespace Lk
open PySem PySem.Spec PyProof.Rows L2 Cr
/-! ### keys -/
mutual
theorem nk_hash {w : World} : ∀ (n : Nat) (d : D), ky n d = true → (nkD d).hash w = hD d
  | _, .int i, _ => rfl
  | n + 1, .tup xs, h => by
    simp only [nkD, hD, NestedKey.hash, nk_hashes n xs (by simpa [ky] using h)]
  | 0, .tup _, h => by simp [ky] at h
  | n, .non, h | n, .bl _, h | n, .str _, h | n, .lst _, h | n, .dct _, h | n, .dht _, h | n, .own _, h | n, .ins _ _, h => by cases n <;> simp [ky] at h
theorem nk_hashes {w : World} : ∀ (n : Nat) (xs : List D), kyL n xs = true → NestedKey.hashes w (nkDL xs) = hDL xs
  | _, [], _ => rfl
  | n, x :: xs, h => by
    simp only [kyL, Bool.and_eq_true] at h
    simp only [nkDL, hDL, NestedKey.hashes, nk_hash n x h.1, nk_hashes n xs h.2]
end
mutual
theorem nk_depth : ∀ (n : Nat) (d : D), ky n d = true → (nkD d).depth ≤ n
  | n, .int i, _ => Nat.zero_le _
  | n + 1, .tup xs, h => by
    have := nk_depths n xs (by simpa [ky] using h)
    simp only [nkD, NestedKey.depth]
    omega
  | 0, .tup _, h => by simp [ky] at h
  | n, .non, h | n, .bl _, h | n, .str _, h | n, .lst _, h | n, .dct _, h | n, .dht _, h | n, .own _, h | n, .ins _ _, h => by cases n <;> simp [ky] at h
theorem nk_depths : ∀ (n : Nat) (xs : List D), kyL n xs = true → NestedKey.depthAll (nkDL xs) ≤ n
  | n, [], _ => Nat.zero_le _
  | n, x :: xs, h => by
    simp only [kyL, Bool.and_eq_true] at h
    have := nk_depth n x h.1
    have := nk_depths n xs h.2
    simp only [nkDL, NestedKey.depthAll]
    omega
end
mutual
theorem nk_eqv : ∀ (n m : Nat) (x y : D), ky n x = true → ky m y = true → eqv x y = NestedKey.beq (nkD x) (nkD y)
  | _, _, .int i, .int j, _, _ => by simp only [eqv, nkD, NestedKey.beq]; rw [Bool.eq_iff_iff]; simp
  | n, m, .int i, .tup ys, _, _ => by simp [eqv, nkD, NestedKey.beq]
  | n, m, .tup xs, .int i, _, _ => by simp [eqv, nkD, NestedKey.beq]
  | n + 1, m + 1, .tup xs, .tup ys, h, h' => by
    simp only [eqv, nkD, NestedKey.beq]
    exact nk_eqvs n m xs ys (by simpa [ky] using h) (by simpa [ky] using h')
  | 0, _, .tup _, .tup _, h, _ => by simp [ky] at h
  | _, 0, .tup _, .tup _, _, h => by simp [ky] at h
  | n, _, .non, _, h, _ | n, _, .bl _, _, h, _ | n, _, .str _, _, h, _ | n, _, .lst _, _, h, _ | n, _, .dct _, _, h, _ | n, _, .dht _, _, h, _ | n, _, .own _, _, h, _ | n, _, .ins _ _, _, h, _ => by cases n <;> simp [ky] at h
  | _, n, _, .non, _, h | _, n, _, .bl _, _, h | _, n, _, .str _, _, h | _, n, _, .lst _, _, h | _, n, _, .dct _, _, h | _, n, _, .dht _, _, h | _, n, _, .own _, _, h | _, n, _, .ins _ _, _, h => by cases n <;> simp [ky] at h
theorem nk_eqvs : ∀ (n m : Nat) (x y : List D), kyL n x = true → kyL m y = true → eqvL x y = NestedKey.beqAll (nkDL x) (nkDL y)
  | _, _, [], [], _, _ => rfl
  | _, _, [], _ :: _, _, _ => rfl
  | _, _, _ :: _, [], _, _ => rfl
  | n, m, x :: xs, y :: ys, h, h' => by
    simp only [kyL, Bool.and_eq_true] at h h'
    simp only [eqvL, nkDL, NestedKey.beqAll, nk_eqv n m x y h.1 h'.1, nk_eqvs n m xs ys h.2 h'.2]
end
theorem kyT_ky {d : D} (h : kyT d = true) : ky 8 d = true ∧ ∃ xs, d = .tup xs := by
  cases d with
  | tup xs => exact ⟨by simpa [ky, kyT] using h, xs, rfl⟩
  | _ => cases h
theorem key_eq {x y : D} (h : kyT x = true) (h' : kyT y = true) : eqv x y = decide (nkD x = nkD y) := by
  rw [NestedKey.decide_eq]
  exact nk_eqv 8 8 x y (kyT_ky h).1 (kyT_ky h').1
section
variable {X : Cx} {pins : List (Addr × Obj)} {σ : L2.St} {H : Hp} {s : Shared}
mutual
theorem nk_at {O : Addr → Prop} (I : L2.Inv X pins σ H s) : ∀ (n : Nat) (d : D) (v : V) (u : Value), ky n d = true → Rep X.K O H d v → RelV v u → NestedIs s.heap (nkD d) u
  | _, .int i, v, u, _, r, e => by
    rw [show v = .int i from r] at e
    obtain ⟨t, rfl⟩ := e
    exact .int i t
  | n + 1, .tup xs, v, u, h, r, e => by
    obtain ⟨a, vs, rfl, t, l⟩ := r
    obtain rfl : u = Value.ref a := e
    obtain ⟨its, rv, ⟨o, h1, h2, m, h3⟩, hz⟩ := I.tuple t.sq
    exact .tup h1 h2 h3 (nk_ats I n xs vs its (by simpa [ky] using h) l rv)
  | 0, .tup _, _, _, h, _, _ => by simp [ky] at h
  | n, .non, _, _, h, _, _ | n, .bl _, _, _, h, _, _ | n, .str _, _, _, h, _, _ | n, .lst _, _, _, h, _, _ | n, .dct _, _, _, h, _, _ | n, .dht _, _, _, h, _, _ | n, .own _, _, _, h, _, _ | n, .ins _ _, _, _, h, _, _ => by cases n <;> simp [ky] at h
theorem nk_ats {O : Addr → Prop} (I : L2.Inv X pins σ H s) : ∀ (n : Nat) (ds : List D) (vs : List V) (us : List Value), kyL n ds = true → RepL X.K O H ds vs → Vals vs us → NestedAll s.heap (nkDL ds) us
  | _, [], vs, us, _, r, e => by
    rw [show vs = [] from r] at e
    cases e
    exact .nil
  | n, d :: ds, vs, us, h, r, e => by
    simp only [kyL, Bool.and_eq_true] at h
    obtain ⟨v, r', rfl, r1, r2⟩ := r
    cases e with
    | cons e1 e2 => exact .cons (nk_at I n d v _ h.1 r1 e1) (nk_ats I n ds _ _ h.2 r2 e2)
end
theorem key_is_at {O : Addr → Prop} (I : L2.Inv X pins σ H s) {k : D} {b : Addr} (h : kyT k = true) (r : Rep X.K O H k (.ref b)) : (nestedKind X.prog X.w).is s.heap (nkD k) b :=
  ⟨nk_at I 8 k _ _ (kyT_ky h).1 r rfl, nk_depth 8 k (kyT_ky h).1⟩
end
theorem Fr.repH {K : PySem.W.Frag} {F F' : Fp} {H H' : Hp} {P : Addr → Prop} (x : Fr F H F' H') {d : Ents} {v : HEnt} (h : RepH K (Own F P) H d v) : RepH K (Own F' P) H' d v := RepH.move x.keeps x.grows d v h
/-! ### entries -/
abbrev HVal := List (D × Addr × Value)
abbrev EntV (p : D × Addr × V) (q : D × Addr × Value) : Prop := p.1 = q.1 ∧ p.2.1 = q.2.1 ∧ RelV p.2.2 q.2.2
def enc (x : D × Addr × Value) : NestedKey × Addr × Value := (nkD x.1, x.2.1, x.2.2)
def putU {β : Type} (us : List (D × Addr × β)) (k : D) (b : Addr) (x : β) : List (D × Addr × β) := if (us.any fun u => eqv u.1 k) = true then us.map fun u => if eqv u.1 k = true then (u.1, u.2.1, x) else u else us ++ [(k, b, x)]
section
variable {K : PySem.W.Frag} {O : Addr → Prop} {H : Hp}
theorem RepH.length : ∀ {ks : Ents} {us : HEnt}, RepH K O H ks us → us.length = ks.length
  | [], _, h => by cases (show _ = [] from h); rfl
  | p :: ks, _, h => by
    obtain ⟨u, r, rfl, _, h2⟩ := h
    simp [RepH.length h2]
theorem RepH.keys : ∀ {ks : Ents} {us : HEnt}, RepH K O H ks us → ∀ u ∈ us, kyT u.1 = true ∧ Rep K O H u.1 (.ref u.2.1)
  | [], _, h => by cases (show _ = [] from h); intro u hu; cases hu
  | (k, d) :: ks, _, h => by
    obtain ⟨u, r, rfl, ⟨⟨e, h1⟩, h2, h3⟩, h4⟩ := h
    intro x hx
    rcases List.mem_cons.mp hx with z | z
    · subst z; subst e; exact ⟨h1, h2⟩
    · exact RepH.keys h4 x z
theorem RepH.any {k : D} : ∀ {ks : Ents} {us : HEnt}, RepH K O H ks us → (ks.any fun p => eqv p.1 k) = us.any fun u => eqv u.1 k
  | [], _, h => by cases (show _ = [] from h); rfl
  | (j, d) :: ks, _, h => by
    obtain ⟨u, r, rfl, ⟨⟨e, h1⟩, h2, h3⟩, h4⟩ := h
    rw [List.any_cons, List.any_cons, RepH.any h4, e]
theorem RepH.app : ∀ {ks ls : Ents} {us ws : HEnt}, RepH K O H ks us → RepH K O H ls ws → RepH K O H (ks ++ ls) (us ++ ws)
  | [], _, _, _, h, q => by cases (show _ = [] from h); exact q
  | p :: ks, _, _, _, h, q => by
    obtain ⟨u, r, rfl, h1, h2⟩ := h
    exact ⟨u, _, rfl, h1, RepH.app h2 q⟩
theorem RepH.sub {k d : D} {x : V} (rx : Rep K O H d x) : ∀ {ks : Ents} {us : HEnt}, RepH K O H ks us → RepH K O H (ks.map fun p => if eqv p.1 k = true then (p.1, d) else p) (us.map fun u => if eqv u.1 k = true then (u.1, u.2.1, x) else u)
  | [], _, h => by cases (show _ = [] from h); rfl
  | (j, e) :: ks, _, h => by
    obtain ⟨u, r, rfl, ⟨⟨z, h1⟩, h2, h3⟩, h4⟩ := h
    refine ⟨_, _, rfl, ?_, RepH.sub rx h4⟩
    subst z
    by_cases q : eqv u.1 k = true
    · simp only [q, if_true]; exact ⟨⟨rfl, h1⟩, h2, rx⟩
    · simp only [q, if_false]; exact ⟨⟨rfl, h1⟩, h2, h3⟩
theorem RepH.put {ks : Ents} {us : HEnt} {k d : D} {b : Addr} {x : V} (r : RepH K O H ks us) (hk : kyT k = true) (rk : Rep K O H k (.ref b)) (rx : Rep K O H d x) : RepH K O H (putH ks k d) (putU us k b x) := by
  unfold putH putU
  rw [RepH.any r]
  by_cases q : (us.any fun u => eqv u.1 k) = true
  · rw [if_pos q, if_pos q]; exact RepH.sub rx r
  · rw [if_neg q, if_neg q]; exact RepH.app r ⟨_, _, rfl, ⟨⟨rfl, hk⟩, rk, rx⟩, rfl⟩
theorem RepH.get {k : D} : ∀ {ks : Ents} {us : HEnt}, RepH K O H ks us → match getH ks k with
    | some d => ∃ u, (us.find? fun u => eqv u.1 k) = some u ∧ Rep K O H d u.2.2
    | none => (us.find? fun u => eqv u.1 k) = none
  | [], _, h => by cases (show _ = [] from h); rfl
  | (j, e) :: ks, _, h => by
    obtain ⟨u, r, rfl, ⟨⟨z, h1⟩, h2, h3⟩, h4⟩ := h
    have ih := RepH.get (k := k) h4
    subst z
    unfold getH at ih ⊢
    cases q : eqv u.1 k with
    | true =>
      simp only [List.find?, q]
      exact ⟨u, rfl, h3⟩
    | false =>
      simp only [List.find?, q]
      exact ih
theorem ent_any {k : D} : ∀ {us : HEnt} {vs : HVal}, Paired EntV us vs → (us.any fun u => eqv u.1 k) = vs.any fun u => eqv u.1 k
  | _, _, .nil => rfl
  | _, _, .cons r t => by rw [List.any_cons, List.any_cons, ent_any t, r.1]
theorem ent_sub {k : D} {x : V} {u : Value} (rx : RelV x u) {us : HEnt} {vs : HVal} (p : Paired EntV us vs) : Paired EntV (us.map fun u => if eqv u.1 k = true then (u.1, u.2.1, x) else u) (vs.map fun w => if eqv w.1 k = true then (w.1, w.2.1, u) else w) := by
  induction p with
  | nil => exact .nil
  | @cons y z ys zs r t ih =>
    refine .cons ?_ ih
    simp only [r.1]
    by_cases q : eqv z.1 k = true
    · simp only [q, if_true]; exact ⟨rfl, r.2.1, rx⟩
    · simp only [q, if_false]; exact r
theorem ent_snoc {k : D} {b : Addr} {x : V} {u : Value} (rx : RelV x u) {us : HEnt} {vs : HVal} (p : Paired EntV us vs) : Paired EntV (us ++ [(k, b, x)]) (vs ++ [(k, b, u)]) := by
  induction p with
  | nil => exact .cons ⟨rfl, rfl, rx⟩ .nil
  | cons r t ih => exact .cons r ih
theorem ent_put {k : D} {b : Addr} {x : V} {u : Value} (rx : RelV x u) {us : HEnt} {vs : HVal} (p : Paired EntV us vs) : Paired EntV (putU us k b x) (putU vs k b u) := by
  unfold putU
  rw [ent_any p]
  split
  · exact ent_sub rx p
  · exact ent_snoc rx p
theorem ent_find {k : D} : ∀ {us : HEnt} {vs : HVal}, Paired EntV us vs → match us.find? fun u => eqv u.1 k with
    | some u => ∃ v, (vs.find? fun u => eqv u.1 k) = some v ∧ EntV u v
    | none => (vs.find? fun u => eqv u.1 k) = none
  | _, _, .nil => rfl
  | _, _, .cons (a := y) (b := z) r t => by
    have ih := ent_find (k := k) t
    cases q : eqv z.1 k with
    | true =>
      simp only [List.find?, r.1, q]
      exact ⟨z, rfl, r⟩
    | false =>
      simp only [List.find?, r.1, q]
      exact ih
theorem ent_keys {P : D → Prop} {us : HEnt} {vs : HVal} (p : Paired EntV us vs) (h : ∀ u ∈ us, P u.1) : ∀ v ∈ vs, P v.1 := by
  induction p with
  | nil => intro v hv; cases hv
  | @cons y z ys zs r t ih =>
    intro v hv
    rcases List.mem_cons.mp hv with q | q
    · rw [q, ← r.1]; exact h y List.mem_cons_self
    · exact ih (fun u hu => h u (List.mem_cons_of_mem _ hu)) v q
/-- what is at a key, in both ways of telling -/
theorem enc_at {k : D} (hk : kyT k = true) : ∀ {vs : HVal}, (∀ v ∈ vs, kyT v.1 = true) → atKey (vs.map enc) (nkD k) = (vs.find? fun u => eqv u.1 k).map (·.2)
  | [], _ => rfl
  | v :: vs, h => by
    have ih := enc_at hk (vs := vs) fun x hx => h x (List.mem_cons_of_mem _ hx)
    unfold atKey at ih ⊢
    rw [List.map_cons]
    have e : eqv v.1 k = decide ((enc v).1 = nkD k) := key_eq (h v List.mem_cons_self) hk
    cases q : eqv v.1 k with
    | true =>
      simp only [List.find?, ← e, q]
      rfl
    | false =>
      simp only [List.find?, ← e, q]
      exact ih
theorem enc_put {k : D} {b : Addr} {u : Value} (hk : kyT k = true) {vs : HVal} (h : ∀ v ∈ vs, kyT v.1 = true) : storedH (vs.map enc) (nkD k) b u = (putU vs k b u).map enc := by
  unfold storedH putU
  rw [enc_at hk h]
  have ha : ((vs.find? fun u => eqv u.1 k).map (·.2)).isSome = vs.any fun u => eqv u.1 k := by
    rw [Option.isSome_map]
    induction vs with
    | nil => rfl
    | cons v vs ih =>
      cases q : eqv v.1 k with
      | true => simp only [List.find?, List.any_cons, q]; rfl
      | false =>
        simp only [List.find?, List.any_cons, q, Bool.false_or]
        exact ih fun x hx => h x (List.mem_cons_of_mem _ hx)
  rw [ha]
  split
  · rw [List.map_map, List.map_map]
    apply List.map_congr_left
    intro v hv
    have e : eqv v.1 k = decide ((enc v).1 = nkD k) := key_eq (h v hv) hk
    show putAt (nkD k) u (enc v) = enc (if eqv v.1 k = true then (v.1, v.2.1, u) else v)
    unfold putAt
    by_cases q : eqv v.1 k = true
    · rw [if_pos q, if_pos (of_decide_eq_true (by rw [← e]; exact q))]; rfl
    · rw [if_neg q, if_neg (of_decide_eq_false (by rw [← e]; simpa using q))]
  · simp [enc]
theorem putU_len {β : Type} {us : List (D × Addr × β)} {k : D} {b : Addr} {x : β} : (putU us k b x).length ≤ us.length + 1 := by
  unfold putU
  split <;> simp
theorem putU_keys {β : Type} {P : D → Prop} {us : List (D × Addr × β)} {k : D} {b : Addr} {x : β} (h : ∀ v ∈ us, P v.1) (hk : P k) : ∀ v ∈ putU us k b x, P v.1 := by
  unfold putU
  split
  · intro v hv
    obtain ⟨w, hw, rfl⟩ := List.mem_map.mp hv
    split
    · exact h w hw
    · exact h w hw
  · intro v hv
    rcases List.mem_append.mp hv with z | z
    · exact h v z
    · rw [List.mem_singleton.mp z]; exact hk
end
section
variable {X : Cx} {pins : List (Addr × Obj)} {σ : L2.St} {H : Hp} {s : Shared} {O : Addr → Prop} {a : Addr} {us : HEnt} {ks : Ents}
theorem enc_ents {w : World} {P : Program} {vs : HVal} (h : ∀ v ∈ vs, kyT v.1 = true) : vs.map (fun x => (⟨hD x.1, .ref x.2.1, x.2.2⟩ : DictEntry)) = (vs.map enc).map (entryOfKey (nestedKind P w)) := by
  rw [List.map_map]
  apply List.map_congr_left
  intro v hv
  show _ = (⟨(nkD v.1).hash w, .ref v.2.1, v.2.2⟩ : DictEntry)
  rw [nk_hash 8 v.1 (kyT_ky (h v hv)).1]
/-- the dict as the library tells it -/
theorem dh_of (I : L2.Inv X pins σ H s) (hU : H a = some (HdO a us)) (r : RepH X.K O H ks us) : ∃ vs : HVal, Paired EntV us vs ∧ (∀ v ∈ vs, kyT v.1 = true) ∧ (a == sysModules) = false ∧ us.length ≤ sizeLine ∧ s.heap.DictOfH (nestedKind X.prog X.w) a (vs.map enc) := by
  obtain ⟨⟨vs, p, o, es, ep, h1, h2, h3, h4, h5, h6, h7⟩, _⟩ := (show ObjOk X.prog X.w H s.heap a (.ext (HRaw a us)) from I.hok a _ hU)
  have hk := ent_keys (P := fun k => kyT k = true) p fun u hu => (RepH.keys r u hu).1
  refine ⟨vs, p, hk, h6, h7, o, es, ep, h1, h2, h3, by rw [h4]; exact enc_ents hk, fun x hx => ?_, by rw [List.map_map]; exact h5⟩
  obtain ⟨v, hv, rfl⟩ := List.mem_map.mp hx
  have key : ∀ {us : HEnt} {vs : HVal}, Paired EntV us vs → (∀ u ∈ us, kyT u.1 = true ∧ Rep X.K O H u.1 (.ref u.2.1)) → ∀ v ∈ vs, (nestedKind X.prog X.w).is s.heap (nkD v.1) v.2.1 := by
    intro us vs p h
    induction p with
    | nil => intro v hv; cases hv
    | @cons y z ys zs r t ih =>
      intro v hv
      rcases List.mem_cons.mp hv with q | q
      · obtain ⟨g1, g2⟩ := h y List.mem_cons_self
        rw [q]
        rw [r.1] at g1
        rw [r.1, r.2.1] at g2
        exact key_is_at I g1 g2
      · exact ih (fun u hu => h u (List.mem_cons_of_mem _ hu)) v q
  exact key p (RepH.keys r) v hv
/-- .. and back -/
theorem dh_raw {P : Program} {w : World} {h : Heap} {vs : HVal} (p : Paired EntV us vs) (hk : ∀ v ∈ vs, kyT v.1 = true) (hs : (a == sysModules) = false) (hl : us.length ≤ sizeLine) (d : h.DictOfH (nestedKind P w) a (vs.map enc)) : HRaw a us h := by
  obtain ⟨o, es, ep, h1, h2, h3, h4, h5, h6⟩ := d
  exact ⟨vs, p, o, es, ep, h1, h2, h3, by rw [h4]; exact (enc_ents hk).symm, by rw [List.map_map] at h6; exact h6, hs, hl⟩
theorem hraw_ok {P : Program} {w : World} {H' : Hp} {h : Heap} (r : HRaw a us h) : ObjOk P w H' h a (HdO a us) := by
  obtain ⟨vs, p, o, es, ep, h1, q⟩ := id r
  refine ⟨r, ⟨o, h1⟩, fun g1 g2 ⟨vs, p, o, es, ep, h1, q⟩ k => ⟨vs, p, o, es, ep, k o h1, q⟩⟩
theorem hd_empty {P : Program} {w : World} {H' : Hp} (h : Heap) (hb : sysModules < h.objs.size) : ObjOk P w H' (h.push { cls := .type "dict", data := .dict #[] }) h.objs.size (HdO h.objs.size []) :=
  hraw_ok ⟨[], .nil, _, #[], 0, Heap.get?_push_size _ rfl, ⟨rfl, rfl, rfl⟩, rfl, rfl, List.nodup_nil, beq_eq_false_iff_ne.mpr (Ne.symm (Nat.ne_of_lt hb)), Nat.zero_le _⟩
/-- the key k: v is put in -/
theorem hd_put (I : L2.Inv X pins σ H s) (hU : H a = some (HdO a us)) {vs : HVal} {k : D} {b : Addr} {x : V} {u : Value} {h' : Heap} {t' : Nat} (p : Paired EntV us vs) (hk : ∀ v ∈ vs, kyT v.1 = true) (hs : (a == sysModules) = false) (hl : us.length < sizeLine) (kk : kyT k = true) (rx : RelV x u)
    (d : h'.DictOfH (nestedKind X.prog X.w) a (storedH (vs.map enc) (nkD k) b u)) (hb : Heap.SameBut a s.heap h') : L2.Inv X pins σ (upd H a (HdO a (putU us k b x))) { s with heap := h', toks := t' } := by
  rw [enc_put kk hk] at d
  have he : ∃ q, h'.get? a = some q := let ⟨q, _, _, hq, _⟩ := d; ⟨q, hq⟩
  refine d_write I (by rw [hU]; exact True.intro) hb he (hraw_ok (dh_raw (ent_put rx p) (putU_keys (P := fun k => kyT k = true) hk kk) hs (Nat.le_trans putU_len hl) d))
end
/-! ### operators -/
def HdR (K : PySem.W.Frag) (H : Hp) (y : V) (ks : Ents) (O : Addr → Prop) : Prop := ∃ a us, y = .ref a ∧ H a = some (HdO a us) ∧ RepH K O H ks us
def HkR (K : PySem.W.Frag) (H : Hp) (x : V) (k : D) (O : Addr → Prop) : Prop := kyT k = true ∧ Rep K O H k x
theorem hk_ref {K : PySem.W.Frag} {H : Hp} {x : V} {k : D} {O : Addr → Prop} (h : HkR K H x k O) : ∃ b, x = .ref b := by
  obtain ⟨h1, r⟩ := h
  obtain ⟨_, xs, rfl⟩ := kyT_ky h1
  obtain ⟨a, vs, rfl, _⟩ := r
  exact ⟨a, rfl⟩
section
variable {X : Cx}
theorem nk_room {A : Around} (hu : A.units + 65 < cLine) : (nestedKind X.prog X.w).room A.in1 := by
  show A.units + 1 + 8 < cLine
  omega
def rHin (K : PySem.W.Frag) (neg : Bool) : R2 := fun x y H Q => ∃ O ks k, HdR K H y ks O ∧ HkR K H x k O ∧ Q (.bl (if neg = true then !(getH ks k).isSome else (getH ks k).isSome)) H
theorem hd_find {pins : List (Addr × Obj)} {σ : L2.St} {H : Hp} {s : Shared} {O : Addr → Prop} {a : Addr} {us : HEnt} {ks : Ents} {k : D} {vs : HVal} (r : RepH X.K O H ks us) (p : Paired EntV us vs) (hk : ∀ v ∈ vs, kyT v.1 = true) (kk : kyT k = true) :
    match getH ks k with
    | some d => ∃ (b : Addr) (u : Value) (x : V), atKey (vs.map enc) (nkD k) = some (b, u) ∧ RelV x u ∧ Rep X.K O H d x
    | none => atKey (vs.map enc) (nkD k) = none := by
  rw [enc_at kk hk]
  have g := RepH.get (k := k) r
  have f := ent_find (k := k) p
  cases e : getH ks k with
  | none =>
    rw [e] at g
    simp only at g
    rw [g] at f
    simp only at f
    rw [f]; rfl
  | some d =>
    rw [e] at g
    obtain ⟨u, hu, ru⟩ := g
    rw [hu] at f
    obtain ⟨v, hv, e1⟩ := f
    rw [hv]
    exact ⟨v.2.1, v.2.2, u.2.2, rfl, e1.2.2, ru⟩
theorem op_Hin (hu : X.A.units + 65 < cLine) : OpR X (compareOp .In) (rHin X.K false) := by
  intro pins s σ H x y v u Q I rx ry ⟨O, ks, k, ⟨a, us, ey, hU, r⟩, hk, q⟩
  obtain ⟨b, ex⟩ := hk_ref hk
  subst ex ey
  obtain rfl : v = Value.ref b := rx
  obtain rfl : u = Value.ref a := ry
  obtain ⟨vs, p, kk, hs, hl, dd⟩ := dh_of I hU r
  refine wpAny_in_heap (nk_room hu) (key_is_at I hk.1 hk.2) hs dd ?_
  have f := hd_find (X := X) (pins := pins) (σ := σ) (s := s) (a := a) (k := k) r p kk hk.1
  have e : (atKey (vs.map enc) (nkD k)).isSome = (getH ks k).isSome := by
    cases z : getH ks k with
    | none => rw [z] at f; simp only at f; rw [f]; rfl
    | some d => rw [z] at f; obtain ⟨b', u', x', h1, _⟩ := f; rw [h1]; rfl
  rw [e]
  exact ⟨.bl _, H, I.tok _, rfl, by simpa using q⟩
theorem op_Hni (hu : X.A.units + 65 < cLine) : OpR X (compareOp .NotIn) (rHin X.K true) := by
  intro pins s σ H x y v u Q I rx ry ⟨O, ks, k, ⟨a, us, ey, hU, r⟩, hk, q⟩
  obtain ⟨b, ex⟩ := hk_ref hk
  subst ex ey
  obtain rfl : v = Value.ref b := rx
  obtain rfl : u = Value.ref a := ry
  obtain ⟨vs, p, kk, hs, hl, dd⟩ := dh_of I hU r
  refine wpAny_notIn_heap (nk_room hu) (key_is_at I hk.1 hk.2) hs dd ?_
  have f := hd_find (X := X) (pins := pins) (σ := σ) (s := s) (a := a) (k := k) r p kk hk.1
  have e : (atKey (vs.map enc) (nkD k)).isSome = (getH ks k).isSome := by
    cases z : getH ks k with
    | none => rw [z] at f; simp only at f; rw [f]; rfl
    | some d => rw [z] at f; obtain ⟨b', u', x', h1, _⟩ := f; rw [h1]; rfl
  rw [e]
  exact ⟨.bl _, H, I.tok _, rfl, by simpa using q⟩
/-- d[k], there -/
def rHix (K : PySem.W.Frag) : R2 := fun x y H Q => ∃ O ks k d, HdR K H x ks O ∧ HkR K H y k O ∧ getH ks k = some d ∧ ∀ z, Rep K O H d z → Q z H
theorem ix_H (hu : X.A.units + 65 < cLine) : IxR X (rHix X.K) := by
  intro value slice pins s σ H x y v u Q I rx ry ⟨O, ks, k, d, ⟨a, us, ey, hU, r⟩, hk, hg, q⟩ hs
  obtain ⟨b, ex⟩ := hk_ref hk
  subst ex ey
  obtain rfl : v = Value.ref a := rx
  obtain rfl : u = Value.ref b := ry
  obtain ⟨vs, p, kk, h0, hl, dd⟩ := dh_of I hU r
  have f := hd_find (X := X) (pins := pins) (σ := σ) (s := s) (a := a) (k := k) r p kk hk.1
  rw [hg] at f
  obtain ⟨b', u', x', h1, h2, h3⟩ := f
  refine subscriptTail_builtinR (x := u') dd.typeIs PySem.F.slot_dict_getitem.lookup (wpAny_getItem_heap (Q := fun r s' => r = u' ∧ EP X pins σ Q r s') (nk_room hu) (key_is_at I hk.1 hk.2) dd h1 ⟨rfl, ⟨x', H, I.tok _, h2, q x' h3⟩⟩) hs
/-- d[k] = v -/
def rSetH (K : PySem.W.Frag) : TSet := fun o i v H Q => ∃ O ks k a us, o = .ref a ∧ H a = some (HdO a us) ∧ RepH K O H ks us ∧ us.length < sizeLine ∧ HkR K H i k O ∧ ∀ b, i = .ref b → Q (upd H a (HdO a (putU us k b v)))
theorem set_H (hu : X.A.units + 65 < cLine) : PSet X (rSetH X.K) := by
  intro pins s σ H o i v ov iv u Q I ro ri rv ⟨O, ks, k, a, us, eo, hU, r, hz, hk, q⟩
  obtain ⟨b, ei⟩ := hk_ref hk
  subst eo ei
  obtain rfl : ov = Value.ref a := ro
  obtain rfl : iv = Value.ref b := ri
  obtain ⟨vs, p, kk, h0, hl, dd⟩ := dh_of I hU r
  refine wpAny_setItem_heap (hsz := by rw [List.length_map, ← Paired.length p]; exact hl) (nk_room hu) (key_is_at I hk.1 hk.2) dd fun h' d' hb => ?_
  exact ⟨_, hd_put I hU p kk h0 hz hk.1 rv d' hb, q b rfl⟩
end
section
variable {K : PySem.W.Frag}
theorem os_Hin : OpS K (rHin K false) gHin := fun O H x y d1 d2 d Q dm r1 r2 e q => by
  unfold gHin at e
  split at e
  · split at e
    · rename_i ks hk
      cases e
      obtain ⟨a, us, rfl, hU, r⟩ := r2
      obtain ⟨_, xs, rfl⟩ := kyT_ky hk
      exact ⟨O, ks, _, ⟨a, us, rfl, hU, r⟩, ⟨hk, r1⟩, by simpa using q _ _ (fun _ _ h => h) rfl⟩
    · cases e
  · cases e
theorem os_Hni : OpS K (rHin K true) gHni := fun O H x y d1 d2 d Q dm r1 r2 e q => by
  unfold gHni at e
  split at e
  · split at e
    · rename_i ks hk
      cases e
      obtain ⟨a, us, rfl, hU, r⟩ := r2
      obtain ⟨_, xs, rfl⟩ := kyT_ky hk
      exact ⟨O, ks, _, ⟨a, us, rfl, hU, r⟩, ⟨hk, r1⟩, by simpa using q _ _ (fun _ _ h => h) rfl⟩
    · cases e
  · cases e
theorem os_Hix : OpS K (rHix K) gHix := fun O H x y d1 d2 d Q dm r1 r2 e q => by
  unfold gHix at e
  split at e
  · split at e
    · rename_i ks hk
      obtain ⟨a, us, rfl, hU, r⟩ := r1
      obtain ⟨_, xs, rfl⟩ := kyT_ky hk
      exact ⟨O, ks, _, d, ⟨a, us, rfl, hU, r⟩, ⟨hk, r2⟩, e, fun z rz => q _ _ (fun _ _ h => h) rz⟩
    · cases e
  · cases e
end
section
variable {X : Cx} {C : Cc} {σ : L2.St} {H : Hp} {F : Fp} {P : Addr → Prop} {ε : Sl} {i : Nat} {e o : Expr} {pos : Pos}
theorem RepE.oh (R : RepE C.K C.G H σ ε F P) (hG : C.G i = .oh) {d : Cr.D} (e : ε[i]? = some (some d)) : ∃ a us ks, d = .dht ks ∧ σ[i]? = some (some (.ref a)) ∧ F i = [a] ∧ H a = some (HdO a us) ∧ RepH C.K (Own F P) H ks us ∧ i < ε.length := by
  obtain ⟨v, hv, r⟩ := R.val i d e
  rw [hG] at r
  obtain ⟨a, us, ks, rfl, rfl, h1, h2, h3⟩ := r
  exact ⟨a, us, ks, rfl, hv, h1, h2, h3, (List.getElem?_eq_some_iff.mp e).1⟩
theorem rs_putH {st : Stmt} {mk m : M Cr.D} (hG : C.G i = .oh) (h : PS X st (tAsg (tE C m) (gSub (tVar i) (tE C mk) (rSetH C.K)))) : PS X st (tS C (putHS i mk m)) := PS.mono h fun D σ H ⟨ε, F, P, R, h⟩ => by
  unfold putHS at h
  refine tE.imp (gE_bd OkS.stp R h) fun v H1 ⟨y, ε1, F1, R1, y1, r1, h1⟩ => ?_
  obtain ⟨d0, e0, h2⟩ := (OkS.stp.bd h1).rd
  obtain ⟨a, us, ks, rfl, hs, hF, ha, l, hi⟩ := R1.oh hG e0
  refine ⟨.ref a, hs, ?_⟩
  refine tE.imp (gE_bd OkS.stp R1 (h2 _ _ R1 Fr.refl)) fun w H2 ⟨kd, ε2, F2, R2, y2, r2, h3⟩ => ?_
  obtain ⟨d1, e1, h4⟩ := (OkS.stp.bd h3).rd
  have h5 := h4 _ _ R2 Fr.refl
  obtain ⟨a', us', ks', rfl, hs', hF', ha', l', hi'⟩ := R2.oh hG e1
  have : a' = a := by rw [hs] at hs'; cases hs'; rfl
  subst this
  simp only at h5
  by_cases hz : kyT kd = true ∧ ks'.length < LIM
  · rw [if_pos hz] at h5
    simp only [bd, wr, if_pos hi'] at h5
    refine ⟨Own F2 P, ks', kd, a', us', rfl, ha', l', by rw [l'.length]; exact Nat.lt_of_lt_of_le hz.2 (by decide), ⟨hz.1, r2⟩, fun b eb => ?_⟩
    subst eb
    have oa : Own F2 P a' := .inr ⟨i, by rw [hF']; exact List.mem_singleton.mpr rfl⟩
    have mv : ∀ {d : Cr.D} {z : V}, Rep C.K (Own F2 P) H2 d z → Rep C.K (Own F2 P) (upd H2 a' (HdO a' (putU us' kd b v))) d z := fun q => Rep.move (keeps_upd oa) (fun b z => .inl z) _ _ q
    obtain ⟨R3, y3⟩ := R2.mutG (d := .dht (putH ks' kd y)) (o' := HdO a' (putU us' kd b v)) hs hF' hi' ha' (by
      rw [hG]
      exact ⟨a', _, _, rfl, rfl, rfl, upd_same, RepH.put (RepH.move (keeps_upd oa) (fun b z => .inl z) _ _ l') hz.1 (mv r2) (mv (y2.rep r1))⟩)
    exact h5 σ _ F2 R3 y3 Pin.refl
  · rw [if_neg hz] at h5
    exact h5.elim
/-- {} -/
theorem pe_newH : PE X (.Dict [] [] pos) (fun _ H Q => ∀ p, H p = none → Q (.ref p) (upd H p (HdO p []))) := ⟨fun pins s σ H Q I h =>
  wpAny_Dict_empty ⟨.ref s.heap.objs.size, _, I.laid (a := s.heap.objs.size) (o := HdO s.heap.objs.size []) (t' := s.toks) (fun _ _ q => Heap.get?_push_of_some _ q) (Nat.le_refl _) (hd_empty s.heap I.big), rfl, h _ (I.hok.fresh (Nat.le_refl _))⟩⟩
theorem rf_newH : PE X (.Dict [] [] pos) (tF C .oh newH) := PE.mono pe_newH fun σ H Q ⟨ε, F, P, R, h⟩ => fun p hp => by
  have h : OkF C .oh σ Q P H F (.ok (.dht []) ε) := h
  have R1 : RepE C.K C.G (upd H p (HdO p [])) σ ε F (fun a => P a ∨ a ∈ [p]) := R.ext (same_upd hp) fun a z => z.elim .inl fun z => .inr (by
    rw [List.mem_singleton.mp z]
    exact ⟨hp, by rw [upd_same]; intro z; cases z⟩)
  exact h (.ref p) _ F [p] R1 (Fr.ext (same_upd hp)) (fun a ha => by rw [List.mem_singleton.mp ha]; exact hp) ⟨p, [], [], rfl, rfl, rfl, upd_same, rfl⟩
end
/-! ### comprehensions -/
def emHr (K : PySem.W.Frag) (tk tv : TE) (D : Addr) : TM := fun σ H N => tk σ H fun y H4 => tv σ H4 fun z H5 => ∃ O ks k us, H5 D = some (HdO D us) ∧ RepH K O H5 ks us ∧ us.length < sizeLine ∧ HkR K H5 y k O ∧ ∀ b, y = .ref b → N (upd H5 D (HdO D (putU us k b z)))
section
variable {X : Cx} {kx vx : Expr} {tk tv : TE}
theorem pm_H {D : Addr} {K : PySem.W.Frag} (hX : X.K = K) (hu : X.A.units + 65 < cLine) (hxe : X.xe = fun _ _ => False) (hk : PE X kx tk) (hv : PE X vx tv) : PMb X (emD kx vx D X.env) [] (emHr K tk tv D) := by
  subst hX
  intro pins s σ H N E I h K Q' hK
  have r1 := hk.run pins s σ H _ I h
  rw [hxe] at r1
  unfold emD
  refine wpAny_bind (wpAny_bind (thnF r1 fun kv s1 ⟨y, H1, I1, ry, q1⟩ => ?_))
  have r2 := hv.run pins s1 σ H1 _ I1 q1
  rw [hxe] at r2
  refine wpAny_bind (wpAny_holding (thnF r2 fun vv s2 ⟨z, H2, I2, rz, O, ks, k, us, hD, rr, hz, hkk, nx⟩ => ?_))
  obtain ⟨b, ey⟩ := hk_ref hkk
  subst ey
  obtain rfl : kv = Value.ref b := ry
  obtain ⟨vs, p, kk, h0, hl, dd⟩ := dh_of I2 hD rr
  refine wpAny_bind (wpAny_standAt (wpAny_holding (wpAny_dictSet_heap (hsz := by rw [List.length_map, ← Paired.length p]; exact hl) (by show X.A.units + 8 < cLine; omega) (key_is_at I2 hkk.1 hkk.2) dd fun h' d' hb => hK _ ⟨_, hd_put I2 hD p kk h0 hz hkk.1 rz d' hb, nx b rfl⟩)))
end
def RAh (K : PySem.W.Frag) (D : Addr) (O : Addr → Prop) (H : Hp) (acc : Ents) (o : HO) : Prop := ∃ us, o = HdO D us ∧ RepH K O H acc us
theorem mv_RAh {K : PySem.W.Frag} {D : Addr} : MvA (RAh K D) := fun O O' H H' a o k g ⟨us, e, r⟩ => ⟨us, e, RepH.move k g a us r⟩
section
variable {C : Cc} {kx vx : M Cr.D} {D : Addr}
theorem emH_run : EmS C [] (RAh C.K D) (emH kx vx) D (emHr C.K (tE C kx) (tE C vx) D) := by
  intro σ H H0 N ε F F0 P acc o R y0 hD0 hPD hU hA h
  obtain ⟨us, eo, rr⟩ := hA
  subst eo
  refine ⟨ε, F, P, R, ?_⟩
  unfold emH bd at h
  cases e1 : kx ε with
  | exn k e => rw [e1] at h; exact h.elim
  | bad => rw [e1] at h; exact h.elim
  | ok k ε1 =>
    rw [e1] at h
    intro H1 F1 R1 y1 v rv
    refine ⟨ε1, F1, P, R1, ?_⟩
    simp only at h
    cases e2 : vx ε1 with
    | exn c e => rw [e2] at h; exact h.elim
    | bad => rw [e2] at h; exact h.elim
    | ok d ε2 =>
      rw [e2] at h
      intro H2 F2 R2 y2 z rz
      simp only at h
      by_cases hz : kyT k = true ∧ acc.length < LIM
      · rw [if_pos hz] at h
        have y12 := y1.trans y2
        have hU2 : H2 D = some (HdO D us) := y12.keep D _ hU fun i q => R.out i D q hPD
        have rr2 := y12.repH rr
        refine ⟨Own F2 P, acc, k, us, hU2, rr2, by rw [rr.length]; exact Nat.lt_of_lt_of_le hz.2 (by decide), ⟨hz.1, y2.rep rv⟩, fun b eb => ?_⟩
        subst eb
        have mv : ∀ {d : Cr.D} {z' : V}, Rep C.K (Own F2 P) H2 d z' → Rep C.K (Own F2 P) (upd H2 D (HdO D (putU us k b z))) d z' := fun q => Rep.move (keeps_upd (.inl hPD)) (fun b z => .inl z) _ _ q
        refine h _ F2 _ (RepE.mutP R2 hPD) ((y0.trans y12).mut hD0) ?_ ?_ upd_same ⟨_, rfl, RepH.put (RepH.move (keeps_upd (.inl hPD)) (fun b z => .inl z) _ _ rr2) hz.1 (mv (y2.rep rv)) (mv rz)⟩
        · exact kp_trans y12.keeps y12.grows (keeps_upd (.inl hPD))
        · exact gr_trans y12.keeps y12.grows fun a z => .inl z
      · rw [if_neg hz] at h; exact h.elim
end
end Lk

end
section
set_option maxRecDepth 100000
set_option maxHeartbeats 4000000
/-! Lk29: comprehensions and displays of dicts whose keys are tuples. -/
namespace Lk
open PySem PySem.Spec PyProof.Rows L2 Cr
section
variable {X : Cx} {C : Cc} {kx vx tg iter tg1 iter1 : Expr} {ifs ifs1 : List Expr} {scope : Scope} {own : List (Str × Nat)} {pos : Pos} {it it1 : M (List D)} {t t1 : Tg} {c c1 : M Bool} {k v : M D} {vs vs1 : List Nat}
theorem oh_of {O : Addr → Prop} {H : Hp} {a : Ents} {o : HO} {D : Addr} (hU : H D = some o) (r : RAh C.K D O H a o) : RepM C.K O H .oh (.dht a) (.ref D) [D] := by
  obtain ⟨us, rfl, q⟩ := r
  exact ⟨D, us, a, rfl, rfl, rfl, hU, q⟩
theorem rh0 (D : Addr) (O : Addr → Prop) (H : Hp) : RAh C.K D O H [] (HdO D []) := ⟨[], rfl, rfl⟩
theorem dh_core1 {pins : List (Addr × Obj)} {s : Shared} {σ : L2.St} {H : Hp} {Q : VK} {pos' : Pos} {use : Option (Value → Sem Unit)} {Qf : Value → Shared → Prop} (hX : X.K = C.K) (hu : X.A.units + 65 < cLine) (hc : X.calm = true) (hN : X.N.Nodup) (I : L2.Inv X pins σ H s) (hi : PI X tg iter (tI C it)) (ok : BlkOk X.N X.env.scope scope own) (hv : own.map (·.2) = vs) (hG : ∀ v ∈ vs, C.G v = .dat)
    (hg : InB X scope fun Y => PG Y tg (tG (C.blk vs) t)) (ht : InB X scope fun Y => PTs Y ifs (tT (C.blk vs) c)) (hk : InB X scope fun Y => PE Y kx (tE (C.blk vs) k)) (hx : InB X scope fun Y => PE Y vx (tE (C.blk vs) v))
    (hs : ∀ x, foldedSetIterable iter X.env x = pure x) (h : tF C .oh (dcHE vs it t c k v) σ H Q)
    (hRR : ∀ D L s' m H', L2.Inv X pins σ H' s' → Q (.ref D) H' → s'.heap.Ns L m → FpOk X pins H' L → compPost (model X.prog X.w) X.A X.xe use Qf (.ref D) L (.ok .next) s') :
    wpAny (model X.prog X.w) X.A (comprehension (.DictComp kx vx [⟨tg, iter, ifs, 0⟩] scope pos) scope X.env pos' newDict false (eval iter X.env) use) Qf X.xe s := by
  subst hv
  exact co_core (obj := { cls := .type "dict", data := .dict #[] }) (o0 := fun p => HdO p []) (emit := emD kx vx) (ve := []) hc hN I hi ok rfl (fun s Q q => wpAny_newObj_type q) (fun H h hb => hd_empty h hb) (fun D env => cl_D1 ..) hg ht
    (fun D s H L cl fp => pm_H (X := X.blk s H scope (compEnvC scope cl L X.env) fp) (D := D) hX hu rfl (hk s H L cl fp) (hx s H L cl fp)) (by simp) hs (co_run (out := Cr.D.dht) (emR := emHr C.K (tE (C.blk _) k) (tE (C.blk _) v)) (RA := RAh C.K) hG (fun _ => mv_RAh) (ve := []) (by simp) rh0 oh_of (fun D => emH_run) h) hRR
theorem rf_dh (hX : X.K = C.K) (hu : X.A.units + 65 < cLine) (hc : X.calm = true) (hN : X.N.Nodup) (hi : PI X tg iter (tI C it)) (ok : BlkOk X.N X.env.scope scope own) (hv : own.map (·.2) = vs) (hG : ∀ v ∈ vs, C.G v = .dat)
    (hg : InB X scope fun Y => PG Y tg (tG (C.blk vs) t)) (ht : InB X scope fun Y => PTs Y ifs (tT (C.blk vs) c)) (hk : InB X scope fun Y => PE Y kx (tE (C.blk vs) k)) (hx : InB X scope fun Y => PE Y vx (tE (C.blk vs) v))
    (hs : ∀ x, foldedSetIterable iter X.env x = pure x := by intro _; rfl) : PE X (.DictComp kx vx [⟨tg, iter, ifs, 0⟩] scope pos) (tF C .oh (dcHE vs it t c k v)) := by
  refine ⟨fun pins s σ H Q I h => ?_⟩
  rw [arm_eval_DictComp]
  refine dh_core1 hX hu hc hN I hi ok hv hG hg ht hk hx hs h fun D L s' m H' I' q hn f => ⟨m, hn, fun h'' sb => ?_⟩
  obtain ⟨f0, f1, f2, f3, f4, f5⟩ := f
  exact ⟨.ref D, H', I'.turned (t' := s'.toks) (fun b o hb z => (sb.2 b hb).trans z) f0 f1 f3 f4 f5, rfl, q⟩
theorem dh_core2 {pins : List (Addr × Obj)} {s : Shared} {σ : L2.St} {H : Hp} {Q : VK} {pos' : Pos} {use : Option (Value → Sem Unit)} {Qf : Value → Shared → Prop} (hX : X.K = C.K) (hu : X.A.units + 65 < cLine) (hc : X.calm = true) (hN : X.N.Nodup) (I : L2.Inv X pins σ H s) (hi : PI X tg iter (tI C it)) (ok : BlkOk X.N X.env.scope scope own) (hv : own.map (·.2) = vs) (hG : ∀ v ∈ vs, C.G v = .dat) (hsub : ∀ i ∈ vs1, i ∈ vs)
    (hg : InB X scope fun Y => PG Y tg (tG (C.blk vs) t)) (ht : InB X scope fun Y => PTs Y ifs (tT (C.blk vs) c)) (hi1 : InB X scope fun Y => PI Y tg1 iter1 (tI (C.blk vs) it1)) (hg1 : InB X scope fun Y => PG Y tg1 (tG (C.blk vs1) t1)) (ht1 : InB X scope fun Y => PTs Y ifs1 (tT (C.blk vs1) c1))
    (hk : InB X scope fun Y => PE Y kx (tE (C.blk vs1) k)) (hx : InB X scope fun Y => PE Y vx (tE (C.blk vs1) v)) (hs : ∀ x, foldedSetIterable iter X.env x = pure x) (hs1 : ∀ env x, foldedSetIterable iter1 env x = pure x) (h : tF C .oh (dc2HE vs it t c vs1 it1 t1 c1 k v) σ H Q)
    (hRR : ∀ D L s' m H', L2.Inv X pins σ H' s' → Q (.ref D) H' → s'.heap.Ns L m → FpOk X pins H' L → compPost (model X.prog X.w) X.A X.xe use Qf (.ref D) L (.ok .next) s') :
    wpAny (model X.prog X.w) X.A (comprehension (.DictComp kx vx [⟨tg, iter, ifs, 0⟩, ⟨tg1, iter1, ifs1, 0⟩] scope pos) scope X.env pos' newDict false (eval iter X.env) use) Qf X.xe s := by
  subst hv
  exact co_core (obj := { cls := .type "dict", data := .dict #[] }) (o0 := fun p => HdO p []) (emit := fun D env => emN (.DictComp kx vx [⟨tg, iter, ifs, 0⟩, ⟨tg1, iter1, ifs1, 0⟩] scope pos) iter1 (.ref D) env) (ve := vs1) hc hN I hi ok rfl (fun s Q q => wpAny_newObj_type q) (fun H h hb => hd_empty h hb) (fun D env => cl_D2o ..) hg ht
    (fun D s H L cl fp => pm_in hc rfl (cl_D2i ..) (hi1 s H L cl fp) (hg1 s H L cl fp) (ht1 s H L cl fp) (pm_H (X := X.blk s H scope (compEnvC scope cl L X.env) fp) (D := D) hX hu rfl (hk s H L cl fp) (hx s H L cl fp)) (by simp) (hs1 _)) hsub hs
    (co_run (out := Cr.D.dht) (emR := fun D => tIn (tI (C.blk _) it1) (tG (C.blk vs1) t1) (tT (C.blk vs1) c1) (emHr C.K (tE (C.blk vs1) k) (tE (C.blk vs1) v) D) vs1) (RA := RAh C.K) hG (fun _ => mv_RAh) (ve := vs1) hsub rh0 oh_of (fun D => emIn_run (C := C.blk _) (fun v hv => hG v (hsub v hv)) mv_RAh (ve := []) (by simp) emH_run) h) hRR
theorem rf_dh2 (hX : X.K = C.K) (hu : X.A.units + 65 < cLine) (hc : X.calm = true) (hN : X.N.Nodup) (hi : PI X tg iter (tI C it)) (ok : BlkOk X.N X.env.scope scope own) (hv : own.map (·.2) = vs) (hG : ∀ v ∈ vs, C.G v = .dat) (hsub : ∀ i ∈ vs1, i ∈ vs)
    (hg : InB X scope fun Y => PG Y tg (tG (C.blk vs) t)) (ht : InB X scope fun Y => PTs Y ifs (tT (C.blk vs) c)) (hi1 : InB X scope fun Y => PI Y tg1 iter1 (tI (C.blk vs) it1)) (hg1 : InB X scope fun Y => PG Y tg1 (tG (C.blk vs1) t1)) (ht1 : InB X scope fun Y => PTs Y ifs1 (tT (C.blk vs1) c1))
    (hk : InB X scope fun Y => PE Y kx (tE (C.blk vs1) k)) (hx : InB X scope fun Y => PE Y vx (tE (C.blk vs1) v)) (hs : ∀ x, foldedSetIterable iter X.env x = pure x := by intro _; rfl) (hs1 : ∀ env x, foldedSetIterable iter1 env x = pure x := by intro _ _; rfl) :
    PE X (.DictComp kx vx [⟨tg, iter, ifs, 0⟩, ⟨tg1, iter1, ifs1, 0⟩] scope pos) (tF C .oh (dc2HE vs it t c vs1 it1 t1 c1 k v)) := by
  refine ⟨fun pins s σ H Q I h => ?_⟩
  rw [arm_eval_DictComp]
  refine dh_core2 hX hu hc hN I hi ok hv hG hsub hg ht hi1 hg1 ht1 hk hx hs hs1 h fun D L s' m H' I' q hn f => ⟨m, hn, fun h'' sb => ?_⟩
  obtain ⟨f0, f1, f2, f3, f4, f5⟩ := f
  exact ⟨.ref D, H', I'.turned (t' := s'.toks) (fun b o hb z => (sb.2 b hb).trans z) f0 f1 f3 f4 f5, rfl, q⟩
theorem rs_setDh2 {i : Nat} {y : Str} {py spos : Pos} (hX : X.K = C.K) (hu : X.A.units + 65 < cLine) (hc : X.calm = true) (hN : X.N.Nodup) (hy : X.N[i]? = some y) (hyl : X.env.scope.names.lookup y = some .local) (hsw : swapsWith (.DictComp kx vx [⟨tg, iter, ifs, 0⟩, ⟨tg1, iter1, ifs1, 0⟩] scope pos) (some (.Name y py)) spos.line X.env = pure true)
    (hi : PI X tg iter (tI C it)) (ok : BlkOk X.N X.env.scope scope own) (hv : own.map (·.2) = vs) (hG : ∀ v ∈ vs, C.G v = .dat) (hsub : ∀ i ∈ vs1, i ∈ vs)
    (hg : InB X scope fun Y => PG Y tg (tG (C.blk vs) t)) (ht : InB X scope fun Y => PTs Y ifs (tT (C.blk vs) c)) (hi1 : InB X scope fun Y => PI Y tg1 iter1 (tI (C.blk vs) it1)) (hg1 : InB X scope fun Y => PG Y tg1 (tG (C.blk vs1) t1)) (ht1 : InB X scope fun Y => PTs Y ifs1 (tT (C.blk vs1) c1))
    (hk : InB X scope fun Y => PE Y kx (tE (C.blk vs1) k)) (hx : InB X scope fun Y => PE Y vx (tE (C.blk vs1) v)) (hs : ∀ x, foldedSetIterable iter X.env x = pure x := by intro _; rfl) (hs1 : ∀ env x, foldedSetIterable iter1 env x = pure x := by intro _ _; rfl) :
    PS X (.Assign [.Name y py] (.DictComp kx vx [⟨tg, iter, ifs, 0⟩, ⟨tg1, iter1, ifs1, 0⟩] scope pos) spos) (tAsg (tF C .oh (dc2HE vs it t c vs1 it1 t1 c1 k v)) (gName i)) := by
  refine ⟨fun pins s σ H D I h => ?_⟩
  rw [exec_Assign_Name_used _ _ _ _ hsw]
  refine wpAny_bind (wpAny_standAt (wpAny_bind ?_))
  show wpAny _ X.A (do let _ ← comprehension (.DictComp kx vx [⟨tg, iter, ifs, 0⟩, ⟨tg1, iter1, ifs1, 0⟩] scope pos) scope X.env (firstIterPos [⟨tg, iter, ifs, 0⟩, ⟨tg1, iter1, ifs1, 0⟩] pos) newDict false (eval iter X.env) (some (assign (.Name y py) X.env))) _ _ s
  have h : tF C .oh (dc2HE vs it t c vs1 it1 t1 c1 k v) σ H (fun x H1 => gName i x σ H1 D.nx) := h
  exact wpAny_bind (thn (dh_core2 (Qf := fun _ s' => SP X pins D .next s') hX hu hc hN I hi ok hv hG hsub hg ht hi1 hg1 ht1 hk hx hs hs1 h fun a L s' m H' I' q hn f => co_store hN hy hyl I' q hn f) fun _ s' hq => wpAny_pure (wpAny_pure hq))
theorem rs_setDh {i : Nat} {y : Str} {py spos : Pos} (hX : X.K = C.K) (hu : X.A.units + 65 < cLine) (hc : X.calm = true) (hN : X.N.Nodup) (hy : X.N[i]? = some y) (hyl : X.env.scope.names.lookup y = some .local) (hsw : swapsWith (.DictComp kx vx [⟨tg, iter, ifs, 0⟩] scope pos) (some (.Name y py)) spos.line X.env = pure true)
    (hi : PI X tg iter (tI C it)) (ok : BlkOk X.N X.env.scope scope own) (hv : own.map (·.2) = vs) (hG : ∀ v ∈ vs, C.G v = .dat)
    (hg : InB X scope fun Y => PG Y tg (tG (C.blk vs) t)) (ht : InB X scope fun Y => PTs Y ifs (tT (C.blk vs) c)) (hk : InB X scope fun Y => PE Y kx (tE (C.blk vs) k)) (hx : InB X scope fun Y => PE Y vx (tE (C.blk vs) v)) (hs : ∀ x, foldedSetIterable iter X.env x = pure x := by intro _; rfl) :
    PS X (.Assign [.Name y py] (.DictComp kx vx [⟨tg, iter, ifs, 0⟩] scope pos) spos) (tAsg (tF C .oh (dcHE vs it t c k v)) (gName i)) := by
  refine ⟨fun pins s σ H D I h => ?_⟩
  rw [exec_Assign_Name_used _ _ _ _ hsw]
  refine wpAny_bind (wpAny_standAt (wpAny_bind ?_))
  show wpAny _ X.A (do let _ ← comprehension (.DictComp kx vx [⟨tg, iter, ifs, 0⟩] scope pos) scope X.env (firstIterPos [⟨tg, iter, ifs, 0⟩] pos) newDict false (eval iter X.env) (some (assign (.Name y py) X.env))) _ _ s
  have h : tF C .oh (dcHE vs it t c k v) σ H (fun x H1 => gName i x σ H1 D.nx) := h
  exact wpAny_bind (thn (dh_core1 (Qf := fun _ s' => SP X pins D .next s') hX hu hc hN I hi ok hv hG hg ht hk hx hs h fun a L s' m H' I' q hn f => co_store hN hy hyl I' q hn f) fun _ s' hq => wpAny_pure (wpAny_pure hq))
end
theorem ent_at {us : HEnt} {vs : HVal} (p : Paired EntV us vs) : ∀ {j : Nat} {u : D × Addr × V}, us[j]? = some u → ∃ v, vs[j]? = some v ∧ EntV u v := by
  induction p with
  | nil => intro j u h; simp at h
  | @cons y z ys zs r t ih =>
    intro j u h
    cases j with
    | zero => simp at h; subst h; exact ⟨z, rfl, r⟩
    | succ j =>
      obtain ⟨v, h1, h2⟩ := ih (j := j) (u := u) (by simpa using h)
      exact ⟨v, by simpa using h1, h2⟩
/-! ### {k: v} -/
section
variable {X : Cx} {C : Cc} {kx vx : Expr} {pos : Pos} {mk mv : M Cr.D}
theorem pe_dispH {tk tv : TE} (hu : X.A.units + 65 < cLine) (hk : PE X kx tk) (hv : PE X vx tv) : PE X (.Dict [some kx] [vx] pos) (fun σ H Q => ∀ p, H p = none → tk σ (upd H p (HdO p [])) fun x H1 => tv σ H1 fun y H2 => H2 p = some (HdO p []) ∧
    ∃ O k, HkR X.K H2 x k O ∧ ∀ b, x = .ref b → Q (.ref p) (upd H2 p (HdO p [(k, b, y)]))) := by
  refine ⟨fun pins s σ H Q I q => ?_⟩
  have hn := I.hok.fresh (Nat.le_refl s.heap.objs.size)
  have I1 := I.laid (a := s.heap.objs.size) (o := HdO s.heap.objs.size []) (h' := s.heap.push { cls := .type "dict", data := .dict #[] }) (t' := s.toks) (fun _ _ q => Heap.get?_push_of_some _ q) (Nat.le_refl _) (hd_empty s.heap I.big)
  have run := (pps_cons (pos := pos) hk hv pps_nil).run pins { s with heap := s.heap.push { cls := .type "dict", data := .dict #[] } } σ _ (fun ps H2 => match ps with
    | [(x, y)] => H2 s.heap.objs.size = some (HdO s.heap.objs.size []) ∧ ∃ O k, HkR X.K H2 x k O ∧ ∀ b, x = .ref b → Q (.ref s.heap.objs.size) (upd H2 s.heap.objs.size (HdO s.heap.objs.size [(k, b, y)]))
    | _ => False) I1 (q _ hn)
  rw [arm_eval_Dict]
  have hsh : (evalEachOpt [some kx] X.env).zip ((evalEach [vx] X.env).map fun v => do let x ← v; standAt pos; pure x) = (pairTrees [some kx] [vx] X.env pos).map fun p => (some p.1, p.2) := by rfl
  rw [hsh, dictDisplay_pairs (pairTrees [some kx] [vx] X.env pos) (by intro z; cases z) (show (1 : Nat) < 17 by decide)]
  refine wpAny_bind (wpAny_standAt (wpAny_bind (wpAny_subDictH (knd := nestedKind X.prog X.w) (Q := fun d s' => wpAny (model X.prog X.w) X.A (pure (Value.ref d)) (EP X pins σ Q) X.xe s') (by show X.A.units + 8 < cLine; omega) (show (1 : Nat) ≤ 15 by decide) (thn run fun ws s2 ⟨ps, H2, I2, rel, qq⟩ => ?_))))
  match ps, rel, qq with
  | [(x, y)], .cons ⟨rx, ry⟩ .nil, ⟨hU, O, k, hkk, q2⟩ =>
    obtain ⟨b, ex⟩ := hk_ref hkk
    subst ex
    rename_i b2 _
    obtain ⟨u1, u2⟩ := b2
    obtain rfl : u1 = Value.ref b := rx
    obtain ⟨vs, p, kk, h0, hl, dd⟩ := dh_of (ks := []) (O := O) I2 hU rfl
    cases p
    refine ⟨[(nkD k, b, u2)], ⟨rfl, rfl, key_is_at I2 hkk.1 hkk.2, trivial⟩, dd, fun h' tk d' hb => wpAny_pure ⟨.ref s.heap.objs.size, _, hd_put (vs := []) (k := k) (b := b) (x := y) (u := u2) I2 hU .nil kk h0 (by decide) hkk.1 ry d' hb, rfl, q2 b rfl⟩⟩
/-- {k: v} -/
theorem rf_dispH (hu : X.A.units + 65 < cLine) (hX : X.K = C.K) (hk : PE X kx (tE C mk)) (hv : PE X vx (tE C mv)) : PE X (.Dict [some kx] [vx] pos) (tF C .oh (dispHE mk mv)) :=
  PE.mono (pe_dispH hu hk hv) fun σ H Q ⟨ε, F, P, R, h⟩ => fun p hp => by
    let P' : Addr → Prop := fun a => P a ∨ a ∈ [p]
    have hP' : P' p := .inr (List.mem_singleton.mpr rfl)
    have R1 : RepE C.K C.G (upd H p (HdO p [])) σ ε F P' := R.ext (same_upd hp) fun a z => z.elim .inl fun z => .inr (by
      rw [List.mem_singleton.mp z]
      exact ⟨hp, by rw [upd_same]; intro z; cases z⟩)
    refine ⟨ε, F, P', R1, ?_⟩
    unfold dispHE bd at h
    cases e1 : mk ε with
    | exn c e => rw [e1] at h; exact fun H' F' R' y => h H' F' (R'.weakP fun a z => .inl z) ((Fr.ext (same_upd hp)).trans y)
    | bad => rw [e1] at h; exact h.elim
    | ok k ε1 =>
      rw [e1] at h
      intro H1 F1 R2 y1 x rx
      refine ⟨ε1, F1, P', R2, ?_⟩
      simp only at h
      cases e2 : mv ε1 with
      | exn c e => rw [e2] at h; exact fun H' F' R' y => h H' F' (R'.weakP fun a z => .inl z) (((Fr.ext (same_upd hp)).trans y1).trans y)
      | bad => rw [e2] at h; exact h.elim
      | ok v ε2 =>
        rw [e2] at h
        intro H2 F2 R3 y2 z rz
        simp only at h
        by_cases hkk : kyT k = true
        · rw [if_pos hkk] at h
          have y12 := y1.trans y2
          have hU : H2 p = some (HdO p []) := y12.keep p _ upd_same fun i q => R1.out i p q hP'
          have h : OkF C .oh σ Q P H F (.ok (.dht [(k, v)]) ε2) := h
          refine ⟨hU, Own F2 P', k, ⟨hkk, by rw [hX]; exact y2.rep rx⟩, fun b eb => ?_⟩
          subst eb
          have mv : ∀ {d : Cr.D} {z' : V}, Rep C.K (Own F2 P') H2 d z' → Rep C.K (Own F2 P') (upd H2 p (HdO p [(k, b, z)])) d z' := fun q => Rep.move (keeps_upd (.inl hP')) (fun b z => .inl z) _ _ q
          exact h (.ref p) _ F2 [p] (RepE.mutP R3 hP') (((Fr.ext (same_upd hp)).trans y12).mut hp) (fun a ha => by rw [List.mem_singleton.mp ha]; exact hp)
            ⟨p, [(k, b, z)], _, rfl, rfl, rfl, upd_same, _, [], rfl, ⟨⟨rfl, hkk⟩, mv (y2.rep rx), mv rz⟩, rfl⟩
        · rw [if_neg hkk] at h; exact h.elim
end
/-! ### list(d), list(d.values()) -/
theorem vals_refs : ∀ us : HEnt, Vals (us.map fun u => V.ref u.2.1) (us.map fun u => Value.ref u.2.1)
  | [] => .nil
  | u :: us => .cons rfl (vals_refs us)
section
variable {X : Cx}
def rKeysH (K : PySem.W.Frag) : List V → Hp → VK → Prop := fun xs H Q => ∃ O ks a us, xs = [.ref a] ∧ H a = some (HdO a us) ∧ RepH K O H ks us ∧ ∀ p, H p = none → Q (.ref p) (upd H p (.lst (us.map fun u => .ref u.2.1)))
theorem call_keysH (hc : X.calm = true) : CallR X (.type "list") (rKeysH X.K) := by
  intro pins s σ H xs us0 Q I r ⟨O, ks, a, us, ex, hU, rr, q⟩
  subst ex
  obtain ⟨u, rfl, rx⟩ := r.one
  obtain rfl : u = Value.ref a := rx
  obtain ⟨⟨vs, p, o, es, ep, ho, hx, hdt, he, h5, hs, z⟩, _⟩ := (show ObjOk X.prog X.w H s.heap a (.ext (HRaw a us)) from I.hok a _ hU)
  have l1 : es.size = vs.length := by rw [← Array.length_toList, he, List.length_map]
  have l2 : us.length = vs.length := Paired.length p
  refine PySem.W.kdl_call (kdl_raw hs hx hdt) (I.ok.hd hc) ho (by omega) fun h' tk acc' c' kp e it => ?_
  have ea : acc'.toList = us.map fun x => Value.ref x.2.1 := by
    have hl : acc'.toList.length = vs.length := by rw [Array.length_toList, it.1]; exact l1
    apply List.ext_getElem?
    intro j
    rw [List.getElem?_map]
    cases hj : acc'.toList[j]? with
    | none =>
      have h1 := List.getElem?_eq_none_iff.mp hj
      rw [List.getElem?_eq_none (by omega)]
      rfl
    | some v =>
      obtain ⟨en, hen, hv⟩ := it.2 j v (by rw [← Array.getElem?_toList]; exact hj)
      rw [← Array.getElem?_toList, he, List.getElem?_map] at hen
      cases hb : vs[j]? with
      | none => rw [hb] at hen; cases hen
      | some b =>
        rw [hb] at hen
        cases hen
        have hlt : j < us.length := by have := (List.getElem?_eq_some_iff.mp hb).1; omega
        obtain ⟨b', hb', re⟩ := ent_at p (List.getElem?_eq_getElem hlt)
        rw [hb] at hb'
        cases hb'
        rw [List.getElem?_eq_getElem hlt]
        simp only [Option.map_some]
        rw [hv, re.2.1]
  have hn := I.hok.fresh (Nat.le_refl s.heap.objs.size)
  refine ⟨.ref s.heap.objs.size, upd H s.heap.objs.size (.lst (us.map fun u => .ref u.2.1)), I.laid (t' := tk) kp (Nat.le_refl _) ⟨by rw [List.length_map]; omega, acc'.toList, c', ?_, by rw [e]⟩, rfl, q _ hn⟩
  rw [ea]
  exact vals_refs us
theorem keysH_rep {K : PySem.W.Frag} {O : Addr → Prop} {H : Hp} : ∀ {ks : Ents} {us : HEnt}, RepH K O H ks us → RepL K O H (ks.map (·.1)) (us.map fun u => .ref u.2.1)
  | [], _, h => by cases (show _ = [] from h); rfl
  | (k, d) :: ks, _, h => by
    obtain ⟨u, r, rfl, ⟨⟨e, h1⟩, h2, h3⟩, h4⟩ := h
    exact ⟨_, _, rfl, h2, keysH_rep h4⟩
theorem cn_keysH {K : PySem.W.Frag} : CallN K (rKeysH K) bKeysH := fun O H vs ds d Q dm r e q => by
  unfold bKeysH at e
  split at e
  · cases e
    obtain ⟨v, rfl, a, us, rfl, t, l⟩ := wl1 r
    exact ⟨O, _, a, us, rfl, t, l, fun p hp => q p _ _ rfl hp (keysH_rep l)⟩
  · cases e
end
end Lk

end
section
set_option maxRecDepth 100000
set_option maxHeartbeats 4000000
/-! Lk30: lists of own lists; xs[k] op= e; loops over an own list; xs[::-1]. -/
namespace Lk
open PySem PySem.Spec PyProof.Rows L2 Cr
/-! ### [[] for x in ..] -/
section
variable {X : Cx} {C : Cc} {tg iter : Expr} {scope : Scope} {own : List (Str × Nat)} {pos lp : Pos} {it : M (List D)} {vs : List Nat} {v : Nat}
theorem nl_run {σ : L2.St} {H : Hp} {Q : VK} (h : tF C .oll (newLs it) σ H Q) : tLc (tI C it) (gName v) tYes (tLst tNil) [v] σ H Q := by
  obtain ⟨ε, F, P, R, h⟩ := h
  refine ⟨ε, F, P, R, ?_⟩
  unfold newLs bd at h
  cases e : it ε with
  | exn k e1 => rw [e] at h; exact h
  | bad => rw [e] at h; exact h
  | ok ds e1 =>
    rw [e] at h
    intro J H1 F1 R1 y1 w D hD
    have h1 := OkF.stp.step _ _ _ _ _ h y1
    clear h
    by_cases hz : ds.length ≤ 1000000
    case neg => simp only [if_neg hz] at h1; exact h1.elim
    simp only [if_pos hz] at h1
    refine ⟨fun i m H' => m = ds.length - i ∧ i ≤ ds.length ∧ ∃ bs : List Addr, bs.length = i ∧ (D :: bs).Nodup ∧ H' D = some (.lst (bs.map .ref)) ∧ (∀ b ∈ bs, H' b = some (.lst []) ∧ H1 b = none) ∧ ∀ a o, H1 a = some o → H' a = some o,
      ⟨ds.length, by simp, Nat.zero_le _, [], rfl, by simp, upd_same, (fun b hb => by cases hb), same_upd hD⟩, ?_⟩
    rintro i m H2 ⟨rfl, hi, bs, hl, nd, hU, hb, hx⟩
    let P2 : Addr → Prop := fun a => P a ∨ a ∈ D :: bs
    have new2 : ∀ a ∈ D :: bs, H1 a = none ∧ H2 a ≠ none := fun a ha => by
      rcases List.mem_cons.mp ha with z | z
      · rw [z, hU]; exact ⟨hD, by intro q; cases q⟩
      · rw [(hb a z).1]; exact ⟨(hb a z).2, by intro q; cases q⟩
    have R2 : RepE C.K C.G H2 σ e1 F1 P2 := R1.ext hx fun a z => z.elim .inl fun z => .inr (new2 a z)
    have g2 : Grows (Own F1 P) (Own F1 P2) H1 := fun a z => by
      rcases z with (z | z) | z
      · exact .inl (.inl z)
      · exact .inr (new2 a z).1
      · exact .inl (.inr z)
    have ww := w H2 (Own F1 P2) (fun a o q _ => hx a o q) g2 R2.dom i
    by_cases hlt : i < ds.length
    · obtain ⟨go, yl⟩ := ww.1 _ (List.getElem?_eq_getElem hlt)
      refine .inr ⟨go, fun H' => ds.length - (i + 1) < ds.length - i ∧ i + 1 ≤ ds.length ∧ ∃ bs : List Addr, bs.length = i + 1 ∧ (D :: bs).Nodup ∧ H' D = some (.lst (bs.map .ref)) ∧ (∀ b ∈ bs, H' b = some (.lst []) ∧ H1 b = none) ∧ ∀ a o, H1 a = some o → H' a = some o,
        fun H' n => ⟨ds.length - (i + 1), n.1, rfl, n.2⟩, fun x H3 hy => ?_⟩
      obtain ⟨ext, _⟩ := yl x H3 hy
      have hw : L2.wipe ((L2.wipe σ [v]).set v (some x)) [v] = L2.wipe σ [v] := by
        show (((σ.set v none).set v (some x)).set v none) = σ.set v none
        simp
      refine ⟨hw, ?_⟩
      unfold tYes
      refine iteT ⟨Nat.zero_le _, fun p hp => ?_⟩
      have pD : p ≠ D := fun z => by rw [z, ext D _ hU] at hp; cases hp
      have pb : p ∉ bs := fun z => by rw [ext p _ (hb p z).1] at hp; cases hp
      have p1 : H1 p = none := by
        cases q : H1 p with
        | none => rfl
        | some o => rw [ext p _ (hx p o q)] at hp; cases hp
      have at3 : ∀ a o, a ≠ D → H2 a = some o → upd (upd H3 p (.lst [])) D (.lst (bs.map V.ref ++ [.ref p])) a = some o := fun a o n q => by
        rw [upd_ne n, upd_ne (ne_of_none (ext a o q) hp)]
        exact ext a o q
      refine ⟨bs.map .ref, by rw [upd_ne (Ne.symm pD)]; exact ext D _ hU, by rw [List.length_map, hl]; exact Nat.lt_of_lt_of_le (show i < 1000001 by omega) (by decide), by omega, hlt, bs ++ [p], by simp [hl], ?_, by rw [upd_same]; simp, fun b hb' => ?_, fun a o q => ?_⟩
      · have n1 := List.nodup_cons.mp nd
        rw [← List.cons_append, List.nodup_append]
        refine ⟨nd, by simp, ?_⟩
        rintro a ha b hb' rfl
        rw [List.mem_singleton] at hb'
        subst hb'
        rcases List.mem_cons.mp ha with z | z
        · exact pD z
        · exact pb z
      · rcases List.mem_append.mp hb' with z | z
        · have nD : b ≠ D := fun q => (List.nodup_cons.mp nd).1 (q ▸ z)
          exact ⟨at3 b _ nD (hb b z).1, (hb b z).2⟩
        · rw [List.mem_singleton] at z
          subst z
          exact ⟨by rw [upd_ne pD, upd_same], p1⟩
      · exact at3 a o (fun q' => by rw [q'] at q; rw [hD] at q; cases q) (hx a o q)
    · refine .inl ⟨ww.2 (by omega), ?_⟩
      have hl' : bs.length = ds.length := by omega
      refine h1 (.ref D) H2 F1 (D :: bs) R2 (Fr.ext hx) (fun a ha => (new2 a ha).1) ⟨D, bs, ds.map fun _ => [], by rw [List.map_map]; rfl, rfl, rfl, nd, hU, by simp [hl'], fun j b ys hj hy => ⟨[], (hb b (List.mem_of_getElem? hj)).1, ?_⟩⟩
      rw [List.getElem?_map] at hy
      cases q : ds[j]? with
      | none => rw [q] at hy; cases hy
      | some _ => rw [q] at hy; cases hy; rfl
theorem rf_newLs (hc : X.calm = true) (hN : X.N.Nodup) (hi : PI X tg iter (tI C it)) (ok : BlkOk X.N X.env.scope scope own) (hv : own.map (·.2) = [v]) (hg : InB X scope fun Y => PG Y tg (gName v)) (hs : ∀ x, foldedSetIterable iter X.env x = pure x := by intro _; rfl) :
    PE X (.ListComp (.List [] lp) [⟨tg, iter, [], 0⟩] scope pos) (tF C .oll (newLs it)) :=
  PE.mono (pe_lc hc hN hi ok hg (fun _ _ _ _ _ => pts_nil) (fun _ _ _ _ _ => pe_lst pa_nil) hs) fun σ H Q h => by rw [hv]; exact nl_run h
theorem rs_setNewLs {i : Nat} {y : Str} {py spos : Pos} (hc : X.calm = true) (hN : X.N.Nodup) (hy : X.N[i]? = some y) (hyl : X.env.scope.names.lookup y = some .local) (hsw : swapsWith (.ListComp (.List [] lp) [⟨tg, iter, [], 0⟩] scope pos) (some (.Name y py)) spos.line X.env = pure true)
    (hi : PI X tg iter (tI C it)) (ok : BlkOk X.N X.env.scope scope own) (hv : own.map (·.2) = [v]) (hg : InB X scope fun Y => PG Y tg (gName v)) (hs : ∀ x, foldedSetIterable iter X.env x = pure x := by intro _; rfl) :
    PS X (.Assign [.Name y py] (.ListComp (.List [] lp) [⟨tg, iter, [], 0⟩] scope pos) spos) (tAsg (tF C .oll (newLs it)) (gName i)) :=
  PS.mono (ps_setLc hc hN hy hyl hsw hi ok hg (fun _ _ _ _ _ => pts_nil) (fun _ _ _ _ _ => pe_lst pa_nil) hs) fun D σ H h => by rw [hv]; exact nl_run h
/-- given up -/
theorem re_unown {e : Expr} {m : M D} (h : PE X e (tF C .oll m)) : PE X e (tE C (unown m)) := PE.mono h fun σ H Q ⟨ε, F, P, R, h⟩ => by
  refine ⟨ε, F, P, R, ?_⟩
  unfold unown at h
  cases e1 : m ε with
  | exn c ε' => have h : Okk C σ H F P (bd m _ ε) _ := h; unfold bd at h; rw [e1] at h; exact h
  | bad => have h : Okk C σ H F P (bd m _ ε) _ := h; unfold bd at h; rw [e1] at h; exact h
  | ok d ε' =>
    have h : Okk C σ H F P (bd m _ ε) _ := h
    unfold bd at h
    rw [e1] at h
    intro v H' F' fp R' y n r
    obtain ⟨a, bs, dss, rfl, rfl, rfl, nd, e, hl, l⟩ := r
    have R2 := R'.weakP (P := P) fun a z => .inl z
    have no : ∀ b ∈ a :: bs, ¬ Own F' P b := fun b hb z => by
      rcases z with z | ⟨i, z⟩
      · exact R.dom b (.inl z) (n b hb)
      · exact R'.out i b z (.inr hb)
    refine h H' F' R2 y (.ref a) ⟨a, bs.map .ref, rfl, .inl ⟨no a List.mem_cons_self, .inl e⟩, RepL.mk (by simp [hl]) fun i d v h1 h2 => ?_⟩
    rw [List.getElem?_map] at h1 h2
    cases q1 : dss[i]? with
    | none => rw [q1] at h1; cases h1
    | some ys =>
      cases q2 : bs[i]? with
      | none => rw [q2] at h2; cases h2
      | some b =>
        rw [q1] at h1
        rw [q2] at h2
        cases h1
        cases h2
        obtain ⟨vs, h3, h4⟩ := l i b ys q2 q1
        exact ⟨b, vs, rfl, .inl ⟨no b (List.mem_cons_of_mem _ (List.mem_of_getElem? q2)), .inl h3⟩, h4.weak fun a z => z.elim (fun z => .inl (.inl z)) .inr⟩
end
/-! ### xs[k].append(e) -/
/-- what slot i owns is kept apart for a while -/
def Fm (F : Fp) (i : Nat) (fp : List Addr) : Fp := fun j => if j = i then fp ++ F i else F j
theorem Fm_sub {F : Fp} {i j : Nat} {fp : List Addr} {a : Addr} (h : a ∈ F j) : a ∈ Fm F i fp j := by
  unfold Fm
  by_cases e : j = i
  · rw [if_pos e]; subst e; exact List.mem_append_right _ h
  · rw [if_neg e]; exact h
theorem Fm_fp {F : Fp} {i : Nat} {fp : List Addr} {a : Addr} (h : a ∈ fp) : a ∈ Fm F i fp i := by
  unfold Fm; rw [if_pos rfl]; exact List.mem_append_left _ h
theorem Fm_fr {F F' : Fp} {H H' : Hp} {i : Nat} {fp : List Addr} (x : Fr F H F' H') : Fr (Fm F i fp) H (Fm F' i fp) H' :=
  ⟨fun a o e n => x.keep a o e fun j hj => n j (Fm_sub hj), fun j a z => by
    unfold Fm at z
    by_cases e : j = i
    · rw [if_pos e] at z
      rcases List.mem_append.mp z with z | z
      · exact .inl ⟨i, Fm_fp z⟩
      · exact (x.grow i a z).imp (fun ⟨k, z⟩ => ⟨k, Fm_sub z⟩) id
    · rw [if_neg e] at z
      exact (x.grow j a z).imp (fun ⟨k, z⟩ => ⟨k, Fm_sub z⟩) id, x.live⟩
section
variable {C : Cc} {σ : L2.St} {P : Addr → Prop} {D : Ends} {i : Nat} {fp : List Addr}
theorem Fm_stp : Stp C σ (fun a => P a ∨ a ∈ fp) (fun H F o => OkS C D P σ H (Fm F i fp) o) :=
  ⟨fun H F o H1 F1 h x => OkS.step h (Fm_fr x) Pin.refl, fun H F c ε h H' F' R y => h σ H' F' (R.weakP fun a z => .inl z) ⟨fun a o e n => y.keep a o e fun j hj => n j (Fm_sub hj), fun j a z => (y.grow j a z).imp (fun ⟨k, z⟩ => ⟨k, Fm_sub z⟩) id, y.live⟩, fun _ _ h => h⟩
theorem fr_apart {F F' : Fp} {H H' : Hp} {Q : Addr → Prop} {K : PySem.W.Frag} {G : Nat → Md} {σ : L2.St} {ε : Sl} (R : RepE K G H σ ε F Q) (y : Fr F H F' H') {a : Addr} {o : HO} (hq : Q a) (h : H a = some o) : H' a = some o := y.keep a o h fun j z => R.out j a z hq
theorem RepE.oll {H : Hp} {F : Fp} {ε : Sl} (R : RepE C.K C.G H σ ε F P) (hG : C.G i = .oll) {d : Cr.D} (e : ε[i]? = some (some d)) : ∃ (a : Addr) (bs : List Addr) (dss : List (List Cr.D)), d = .own (dss.map .lst) ∧ σ[i]? = some (some (.ref a)) ∧ F i = a :: bs ∧ i < ε.length ∧ RepM C.K (Own F P) H .oll d (.ref a) (F i) := by
  obtain ⟨v, hv, r⟩ := R.val i d e
  rw [hG] at r
  obtain ⟨a, bs, dss, h1, h2, h3, h4⟩ := id r
  subst h2
  exact ⟨a, bs, dss, h1, hv, h3, (List.getElem?_eq_some_iff.mp e).1, r⟩
end
section
variable {X : Cx} {C : Cc} {mk m : M D} {i : Nat}
theorem lst_inj {xs ys : List (List Cr.D)} (h : xs.map Cr.D.lst = ys.map Cr.D.lst) : xs = ys := by
  induction xs generalizing ys with
  | nil => cases ys with
    | nil => rfl
    | cons _ _ => simp at h
  | cons x xs ih => cases ys with
    | nil => simp at h
    | cons y ys =>
      simp only [List.map_cons, List.cons.injEq, Cr.D.lst.injEq] at h
      rw [h.1, ih h.2]
theorem own2_some {d kd : Cr.D} {xs ys : List Cr.D} {n : Nat} (h : own2 d kd = some (xs, n, ys)) : ∃ j, d = .own xs ∧ kd = .int j ∧ Cr.ixN xs.length j = some n ∧ xs[n]? = some (.lst ys) := by
  unfold own2 at h
  split at h
  · rename_i zs j
    cases e : Cr.ixN zs.length j with
    | none => rw [e] at h; cases h
    | some m =>
      rw [e] at h
      simp only [Option.bind_some] at h
      split at h
      · rename_i ws e2
        cases h
        exact ⟨j, rfl, rfl, e, e2⟩
      · cases h
  · cases h
theorem rs_app2 {st : Stmt} (hG : C.G i = .oll) (h : PS X st (tDrop (tBM C.K "list" rAppend (tOp (rIx C.K) (tVar i) (tE C mk)) (tCons (tE C m) tNil)))) : PS X st (tS C (app2S i mk m)) := PS.mono h fun D σ H ⟨ε, F, P, R, h⟩ => by
  unfold app2S at h
  obtain ⟨d0, e0, h1⟩ := (OkS.stp.bd h).rd
  have h2 := h1 H F R Fr.refl
  clear h1 h
  obtain ⟨a, bs, dss, rfl, hs, hF, hi, rm⟩ := R.oll hG e0
  obtain ⟨R1, rm1⟩ := R.letgo e0 hs
  rw [hG] at rm1
  obtain ⟨fp, hfp⟩ : ∃ fp, fp = F i := ⟨_, rfl⟩
  rw [← hfp] at R1 rm1 hF
  have ef : Fm (Fset F i []) i fp = F := by
    funext j
    unfold Fm
    by_cases e : j = i
    · rw [if_pos e, Fset_same, List.append_nil, hfp, e]
    · rw [if_neg e, Fset_ne e]
  have h3 : OkS C D P σ H (Fm (Fset F i []) i fp) ((bd mk fun kd => bd (opt (own2 (.own (dss.map Cr.D.lst)) kd)) fun q => bd m fun y => if q.2.2.length < LIM then bd (wr i (.own (q.1.set q.2.1 (.lst (q.2.2 ++ [y]))))) fun _ => Cr.nx else badM) (ε.set i none)) := by
    rw [ef]
    exact h2
  clear h2
  have S := Fm_stp (C := C) (σ := σ) (D := D) (P := P) (i := i) (fp := fp)
  refine ⟨.ref a, hs, ?_⟩
  refine tE.imp (gE_bd S R1 h3) fun kv H1 ⟨kd, ε1, F1, R2, y1, r1, h4⟩ => ?_
  obtain ⟨a', bs', dss', q1, q2, q3, nd, qa, ql, qb⟩ := id rm1
  cases q2
  obtain rfl : bs = bs' := (List.cons.inj (hF.symm.trans q3)).2
  obtain rfl : dss = dss' := lst_inj (by injection q1)
  have nd2 : (a :: bs).Nodup := hF ▸ nd
  have inP : ∀ b ∈ a :: bs, P b ∨ b ∈ fp := fun b hb => .inr (by rw [hF]; exact hb)
  have ha1 : H1 a = some (.lst (bs.map .ref)) := fr_apart (Q := fun a => P a ∨ a ∈ fp) R1 y1 (inP a List.mem_cons_self) qa
  cases eo : own2 (.own (dss.map Cr.D.lst)) kd with
  | none =>
    have h4 : OkS C D P σ H1 (Fm F1 i fp) (bd (opt (own2 (.own (dss.map Cr.D.lst)) kd)) _ ε1) := h4
    rw [eo] at h4
    exact h4.elim
  | some q =>
    have h4 : OkS C D P σ H1 (Fm F1 i fp) (bd (opt (own2 (.own (dss.map Cr.D.lst)) kd)) _ ε1) := h4
    rw [eo] at h4
    obtain ⟨xs, n, ys⟩ := q
    obtain ⟨j, ex, rfl, hn, hy⟩ := own2_some eo
    obtain rfl : dss.map Cr.D.lst = xs := by injection ex
    have h5 : OkS C D P σ H1 (Fm F1 i fp) ((bd m fun y => if ys.length < LIM then bd (wr i (.own ((dss.map Cr.D.lst).set n (.lst (ys ++ [y]))))) fun _ => Cr.nx else badM) ε1) := h4
    have hyd : dss[n]? = some ys := by
      rw [List.getElem?_map] at hy
      cases z : dss[n]? with
      | none => rw [z] at hy; cases hy
      | some w => rw [z] at hy; injection hy with hy; injection hy with hy; rw [hy]
    have hnl : n < bs.length := by rw [ql]; exact (List.getElem?_eq_some_iff.mp hyd).1
    obtain ⟨b, hb⟩ : ∃ b, bs[n]? = some b := ⟨_, List.getElem?_eq_getElem hnl⟩
    obtain ⟨vs, hv, lv⟩ := qb n b ys hb hyd
    have hbP : P b ∨ b ∈ fp := inP b (List.mem_cons_of_mem _ (List.mem_of_getElem? hb))
    have hb1 : H1 b = some (.lst vs) := fr_apart (Q := fun a => P a ∨ a ∈ fp) R1 y1 hbP hv
    refine .inl ⟨a, bs.map .ref, j, .ref b, rfl, r1, SqL.of ha1, ?_, .inl ⟨rfl, vs, SqL.of hb1⟩, ?_⟩
    · unfold atI
      have e2 : L2.ixN (bs.map V.ref).length j = some n := by
        have : (bs.map V.ref).length = (dss.map Cr.D.lst).length := by simp [ql]
        rw [this]
        exact hn
      rw [e2]
      show (bs.map V.ref)[n]? = _
      rw [List.getElem?_map, hb]
      rfl
    refine tE.imp (gE_bd S R2 h5) fun v H2 ⟨y, ε2, F2, R3, y2, r3, h6⟩ => ?_
    have hb2 : H2 b = some (.lst vs) := fr_apart (Q := fun a => P a ∨ a ∈ fp) R2 y2 hbP hb1
    have ha2 : H2 a = some (.lst (bs.map .ref)) := fr_apart (Q := fun a => P a ∨ a ∈ fp) R2 y2 (inP a List.mem_cons_self) ha1
    by_cases hz : ys.length < LIM
    · simp only [if_pos hz] at h6
      by_cases hi2 : i < ε2.length
      · simp only [bd, wr, if_pos hi2] at h6
        have lv1 : RepL C.K (Own F2 fun a => P a ∨ a ∈ fp) H2 ys vs := y2.repL (y1.repL lv)
        refine ⟨b, vs, v, rfl, rfl, hb2, by rw [lv1.length]; exact Nat.lt_of_lt_of_le hz (by decide), ?_⟩
        have oP : Own F2 (fun a => P a ∨ a ∈ fp) b := .inl hbP
        have mv : ∀ {d : List Cr.D} {z : List V}, RepL C.K (Own F2 fun a => P a ∨ a ∈ fp) H2 d z → RepL C.K (Own F2 fun a => P a ∨ a ∈ fp) (upd H2 b (.lst (vs ++ [v]))) d z := fun q => RepL.move (keeps_upd oP) (fun b z => .inl z) _ _ q
        have nab : a ≠ b := fun e => (List.nodup_cons.mp nd2).1 (e ▸ List.mem_of_getElem? hb)
        have R4 := RepE.mutP (o := .lst (vs ++ [v])) R3 hbP
        have rM : RepM C.K (Own F2 fun a => P a ∨ a ∈ fp) (upd H2 b (.lst (vs ++ [v]))) (C.G i) (.own ((dss.map Cr.D.lst).set n (.lst (ys ++ [y])))) (.ref a) fp := by
          rw [hG]
          refine ⟨a, bs, dss.set n (ys ++ [y]), by rw [List.map_set], rfl, hF, nd, by rw [upd_ne nab]; exact ha2, by simp [ql], fun k c ds hc hd => ?_⟩
          by_cases ek : k = n
          · subst ek
            rw [hb] at hc
            cases hc
            rw [List.getElem?_set_self (by rw [← ql]; exact hnl)] at hd
            cases hd
            exact ⟨vs ++ [v], upd_same, mv (lv1.append (RepL.one r3))⟩
          · rw [List.getElem?_set_ne (Ne.symm ek)] at hd
            obtain ⟨ws, hw, lw⟩ := qb k c ds hc hd
            have hcP : P c ∨ c ∈ fp := inP c (List.mem_cons_of_mem _ (List.mem_of_getElem? hc))
            have ncb : c ≠ b := fun e => by
              subst e
              have n1 := (List.nodup_cons.mp nd2).2
              obtain ⟨g1, g2⟩ := List.getElem?_eq_some_iff.mp hc
              obtain ⟨g3, g4⟩ := List.getElem?_eq_some_iff.mp hb
              exact ek ((List.getElem_inj n1).mp (g2.trans g4.symm))
            have hc2 : H2 c = some (.lst ws) := fr_apart (Q := fun a => P a ∨ a ∈ fp) R2 y2 hcP (fr_apart (Q := fun a => P a ∨ a ∈ fp) R1 y1 hcP hw)
            exact ⟨ws, by rw [upd_ne ncb]; exact hc2, mv (y2.repL (y1.repL lw))⟩
        have R5 := RepE.put R4 (fun c hc z => R.out i c (by rw [← hfp]; exact hc) z) rM hi2
        have eσ : σ.set i (some (V.ref a)) = σ := by
          apply List.ext_getElem?
          intro k
          by_cases ek : i = k
          · subst ek
            rw [List.getElem?_set_self (List.getElem?_eq_some_iff.mp hs).1, hs]
          · rw [List.getElem?_set_ne ek]
        rw [eσ] at R5
        refine h6 σ _ _ R5 ⟨fun c o e n => ?_, fun k c z => ?_, fun c n => ?_⟩ Pin.refl
        · rw [upd_ne fun z => n i (Fm_fp (by rw [z, hF]; exact List.mem_cons_of_mem _ (List.mem_of_getElem? hb)))]
          exact e
        · by_cases ek : k = i
          · subst ek
            rw [Fset_same] at z
            exact .inl ⟨_, Fm_fp z⟩
          · rw [Fset_ne ek] at z
            exact .inl ⟨k, Fm_sub z⟩
        · by_cases q : c = b
          · rw [q, upd_same]; intro z; cases z
          · rw [upd_ne q]; exact n
      · simp only [bd, wr, if_neg hi2] at h6
        exact h6.elim
    · simp only [if_neg hz] at h6
      exact h6.elim
end
end Lk

end
section
set_option maxRecDepth 100000
set_option maxHeartbeats 4000000
/-! Lk31: xs[k] op= e; loops over an own list; xs[::-1]; answers that are a list or something else. -/
namespace Lk
open PySem PySem.Spec PyProof.Rows L2 Cr
section
variable {X : Cx} {C : Cc} {i : Nat} {e : Expr} {pos : Pos}
/-! ### xs[k] op= e -/
def rGetL (K : PySem.W.Frag) : V → V → Hp → VK → Prop := fun o i H Q => ∃ (p : Addr) (xs : List V) (k : Int) (v : V), o = .ref p ∧ i = .int k ∧ SqL K H p xs ∧ 0 ≤ k ∧ xs[k.toNat]? = some v ∧ Q v H
theorem ixP_some {d k x : Cr.D} (h : ixP d k = some x) : ∃ xs j, d = .lst xs ∧ k = .int j ∧ 0 ≤ j ∧ xs[j.toNat]? = some x := by
  unfold ixP at h
  split at h
  · split at h
    · exact ⟨_, _, rfl, rfl, by assumption, h⟩
    · cases h
  · cases h
theorem setP_some {d k z x : Cr.D} (h : setP d k z = some x) : ∃ xs j, d = .lst xs ∧ k = .int j ∧ 0 ≤ j ∧ j.toNat < xs.length ∧ x = .lst (xs.set j.toNat z) := by
  unfold setP at h
  split at h
  · split at h
    · rename_i q
      cases h
      exact ⟨_, _, rfl, rfl, q.1, q.2, rfl⟩
    · cases h
  · cases h
theorem get_L : PGet X (rGetL X.K) := by
  intro pins s σ H o i ov iv Q I ro ri ⟨p, xs, k, v, eo, ei, hq, h0, hv, q⟩
  subst eo ei
  obtain rfl : ov = Value.ref p := ro
  obtain ⟨t, rfl⟩ := ri
  obtain ⟨its, r, pl, hz⟩ := I.list hq
  obtain ⟨u, hu, ru⟩ := r.get hv
  have hlt := (List.getElem?_eq_some_iff.mp hu).1
  have hs := sizeLine_eq
  have hl := r.length
  exact wpAny_getItem_list pl.isList h0 (by omega) (by simpa using hu) ⟨v, H, I, ru, q⟩
theorem rs_augIx {st : Stmt} {f : Int → Int → Int} {g : Cr.D → Cr.D → Option Cr.D} {mk m : M Cr.D} (hG : C.G i = .ol) (hg : ∀ x y d, g x y = some d → ∃ a b, x = .int a ∧ y = .int b ∧ d = .int (f a b))
    (h : PS X st (tAugS (tVar i) (tE C mk) (tE C m) (rGetL C.K) (ipI f) rSetL)) : PS X st (tS C (augIxS i g mk m)) := PS.mono h fun D σ H ⟨ε, F, P, R, h⟩ => by
  unfold augIxS at h
  obtain ⟨d0, e0, h1⟩ := (OkS.stp.bd h).rd
  obtain ⟨a, vs0, ds0, rfl, hs, hF, ha, l, hi⟩ := R.ol hG e0
  refine ⟨.ref a, hs, ?_⟩
  refine tE.imp (gE_bd OkS.stp R (h1 _ _ R Fr.refl)) fun kv H1 ⟨kd, ε1, F1, R1, y1, r1, h2⟩ => ?_
  obtain ⟨d1, e1, h3⟩ := (OkS.stp.bd h2).rd
  have h3 := h3 _ _ R1 Fr.refl
  obtain ⟨a', vs1, ds1, rfl, hs', hF', ha', l', hi'⟩ := R1.ol hG e1
  have : a' = a := by rw [hs] at hs'; cases hs'; rfl
  subst this
  obtain ⟨x, ex, h4⟩ := (OkS.stp.bd h3).opt
  have h4 := h4 _ _ R1 Fr.refl
  obtain ⟨zs, j, q1, rfl, h0, ex⟩ := ixP_some ex
  injection q1 with q1
  subst q1
  obtain ⟨v, hv, rv⟩ := l'.get ex
  refine ⟨a', vs1, j, v, rfl, r1, SqL.of ha', h0, hv, ?_⟩
  refine tE.imp (gE_bd OkS.stp R1 h4) fun w H2 ⟨y, ε2, F2, R2, y2, r2, h5⟩ => ?_
  obtain ⟨z, ez, h6⟩ := (OkS.stp.bd h5).opt
  have h6 := h6 _ _ R2 Fr.refl
  obtain ⟨p, q, rfl, rfl, rfl⟩ := hg _ _ _ ez
  refine ⟨p, q, rv, r2, ?_⟩
  obtain ⟨d2, e2, h7⟩ := (OkS.stp.bd h6).rd
  have h7 := h7 _ _ R2 Fr.refl
  obtain ⟨a2, vs2, ds2, rfl, hs2, hF2, ha2, l2, hi2⟩ := R2.ol hG e2
  have : a2 = a' := by rw [hs] at hs2; cases hs2; rfl
  subst this
  obtain ⟨d3, e3, h8⟩ := (OkS.stp.bd h7).opt
  have h8 := h8 _ _ R2 Fr.refl
  obtain ⟨zs2, j2, q2, q3, h02, hj, rfl⟩ := setP_some e3
  injection q2 with q2
  injection q3 with q3
  subst q2 q3
  simp only [bd, wr, if_pos hi2] at h8
  refine ⟨a2, vs2, j, j.toNat, rfl, r1, ha2, ?_, ?_⟩
  · unfold L2.ixN
    rw [if_pos h0, if_pos (by rw [l2.length]; omega)]
  obtain ⟨R3, y3⟩ := R2.mut (us := vs2.set j.toNat (.int (f p q))) hG hs hF2 (l2.set (show Rep C.K (Own F2 P) H2 (.int (f p q)) (.int (f p q)) from rfl)) hi2 ha2
  exact h8 σ _ F2 R3 y3 Pin.refl
/-! ### for x in xs, xs a slot's own list -/
/-- slot i is not stored into -/
def Cc.hold (C : Cc) (i : Nat) : Cc := { C with pin := fun j => j == i || C.pin j }
theorem forO_run {D : Ends} {σ : L2.St} {H : Hp} {t : Tg} {b : S} (hG : C.G i = .ol) (h : tS C (loopO i t b 1000000 0) D σ H) : tFor (iList C.K (tVar i)) (tG (C.hold i) t) (tS (C.hold i) b) D σ H := by
  obtain ⟨ε, F, P, R, h⟩ := h
  have h0 : OkS C D P σ H F (loopO i t b (999999 + 1) 0 ε) := h
  unfold loopO at h0
  obtain ⟨d0, e0, _⟩ := (OkS.stp.bd h0).rd
  obtain ⟨a, vs0, ds0, rfl, hs, hF, ha, l, hi⟩ := R.ol hG e0
  refine ⟨.ref a, hs, a, rfl, ⟨vs0, SqL.of ha⟩, ?_⟩
  refine ⟨fun k m σ' H' => k + m = 1000000 ∧ σ'[i]? = σ[i]? ∧ ∃ e F', RepE C.K C.G H' σ' e F' P ∧ Fr F H F' H' ∧ Pin C σ σ' ∧ OkS C D P σ' H' F' (loopO i t b m k e), ⟨1000000, rfl, rfl, ε, F, R, Fr.refl, Pin.refl, h⟩, ?_⟩
  rintro k m σ1 H1 ⟨hk, hs1, e, F1, R1, y1, p1, q⟩
  cases m with
  | zero => exact q.elim
  | succ m =>
    unfold loopO at q
    obtain ⟨d1, e1, q1⟩ := (OkS.stp.bd q).rd
    have q1 := q1 _ _ R1 Fr.refl
    obtain ⟨a', vs, ds, rfl, hs', hF', ha', l', hi'⟩ := R1.ol hG e1
    have : a' = a := by rw [hs1, hs] at hs'; cases hs'; rfl
    subst this
    simp only at q1
    cases ed : ds[k]? with
    | none =>
      rw [ed] at q1
      refine .inl ⟨⟨vs, SqL.of ha', by rw [l'.length]; exact List.getElem?_eq_none_iff.mp ed⟩, ?_⟩
      exact q1 σ1 H1 F1 R1 Fr.refl Pin.refl
    | some d =>
      rw [ed] at q1
      obtain ⟨v, hv, rv⟩ := l'.get ed
      refine .inr ⟨⟨vs, v, SqL.of ha', hv⟩, fun σ' H' => k + 1 + m = 1000000 ∧ σ'[i]? = σ[i]? ∧ ∃ e F', RepE C.K C.G H' σ' e F' P ∧ Fr F H F' H' ∧ Pin C σ σ' ∧ OkS C D P σ' H' F' (loopO i t b m (k + 1) e), fun σ' H' n => ⟨m, Nat.lt_succ_self m, n⟩, fun x H' ⟨eH, hy⟩ => ?_⟩
      subst eH
      have ev : x = v := Option.some.inj ((hy vs (SqL.of ha')).symm.trans hv)
      subst ev
      refine ⟨d, e, F1, P, R1, rv, ?_⟩
      simp only at q1
      unfold bd stT at q1
      cases et : t d e with
      | none => simp only [et] at q1; exact q1.elim
      | some e2 =>
        simp only [et] at q1
        refine ⟨e2, rfl, fun σ2 H2 F2 R2 y2 p2 => ⟨e2, F2, P, R2, ?_⟩⟩
        have pc : ∀ {σ3 : L2.St}, Pin (C.hold i) σ2 σ3 → Pin C σ1 σ3 ∧ σ3[i]? = σ[i]? := fun {σ3} p3 => ⟨⟨p3.1.trans p2.1, fun j hj => (p3.2 j (by show (j == i || C.pin j) = true; rw [hj]; simp)).trans (p2.2 j (by show (j == i || C.pin j) = true; rw [hj]; simp))⟩,
          ((p3.2 i (by show (i == i || C.pin i) = true; simp)).trans (p2.2 i (by show (i == i || C.pin i) = true; simp))).trans hs1⟩
        have q2 := q1
        unfold bd at q2
        cases eb : b e2 with
        | bad => simp only [eb] at q2; exact q2.elim
        | exn c e3 => simp only [eb] at q2; exact fun σ3 H3 F3 R3 y3 => q2 σ3 H3 F3 R3 (y2.trans y3)
        | ok f e3 =>
          simp only [eb] at q2
          cases f with
          | nx => exact fun σ3 H3 F3 R3 y3 p3 => ⟨by omega, (pc p3).2, e3, F3, R3, (y1.trans y2).trans y3, p1.trans (pc p3).1, OkS.step q2 (y2.trans y3) (pc p3).1⟩
          | ct => exact fun σ3 H3 F3 R3 y3 p3 => ⟨by omega, (pc p3).2, e3, F3, R3, (y1.trans y2).trans y3, p1.trans (pc p3).1, OkS.step q2 (y2.trans y3) (pc p3).1⟩
          | bk => exact fun σ3 H3 F3 R3 y3 p3 => q2 σ3 H3 F3 R3 (y2.trans y3) (pc p3).1
          | rt d => exact fun v σ3 H3 F3 fp R3 y3 p3 n r => q2 v σ3 H3 F3 fp R3 (y2.trans y3) (pc p3).1 (grow_trans y2 n) r
theorem rs_forO {tg iter : Expr} {body : List Stmt} {t : Tg} {b : S} (hG : C.G i = .ol) (hX : X.K = C.K) (hp : PassesOwn (model X.prog X.w) X.A X.env X.xe) (hc : X.calm = true) (hi : PE X iter (tVar i)) (hg : PG X tg (tG (C.hold i) t)) (hb : PSs X body (tS (C.hold i) b)) (hs : ∀ x, foldedSetIterable iter X.env x = pure x := by intro _; rfl) :
    PS X (.For tg iter body [] pos) (tS C (loopO i t b 1000000 0)) := PS.mono (ps_for hp hc (pi_list hi) hg hb hs) fun D σ H h => by rw [hX]; exact forO_run hG h
/-! ### xs[::-1] -/
theorem oneF {g : Cr.D → Option Cr.D} {oa : Opd} {σ : L2.St} {H : Hp} {Q : VK} (h : tF C .ol (un g oa) σ H Q) :
    tO C oa σ H fun x H1 => ∃ (O : Addr → Prop) (d1 d : Cr.D), (∀ a, O a → H1 a ≠ none) ∧ RepW C.K O H1 d1 x ∧ g d1 = some d ∧ ∀ p xs ws, d = .lst xs → H1 p = none → RepL C.K O H1 xs ws → Q (.ref p) (upd H1 p (.lst ws)) := by
  obtain ⟨ε, F, P, R, h⟩ := h
  have S : Stp C σ P (OkF C .ol σ Q P) := OkF.stp
  cases oa with
  | d ma =>
    refine tE.imp (gE_bd S R h) fun x H1 ⟨d1, ε1, F1, R1, y1, r1, h1⟩ => ?_
    obtain ⟨d, ed, q⟩ := OkF.opt h1
    exact ⟨Own F1 P, d1, d, R1.dom, r1.w, ed, fun p xs ws e hp l => finF R1 q e l hp⟩
  | o j =>
    obtain ⟨d1, e1, h1⟩ := (S.bd h).rd
    obtain ⟨v1, hv1, r1⟩ := R.val j d1 e1
    obtain ⟨d, ed, q⟩ := OkF.opt (h1 _ _ R Fr.refl)
    exact ⟨v1, hv1, Own F P, d1, d, R.dom, r1.w, ed, fun p xs ws e hp l => finF R q e l hp⟩
theorem RepL.reverse {K : PySem.W.Frag} {O : Addr → Prop} {H : Hp} : ∀ {ds : List Cr.D} {vs : List V}, RepL K O H ds vs → RepL K O H ds.reverse vs.reverse
  | [], _, h => by cases (show _ = [] from h); rfl
  | d :: ds, _, h => by
    obtain ⟨v, r, rfl, h1, h2⟩ := h
    rw [List.reverse_cons, List.reverse_cons]
    exact (RepL.reverse h2).append (RepL.one h1)
theorem rf_rev {k : Nat} {p1 p2 p3 : Pos} {oa : Opd} (hX : X.K = C.K) (ha : PE X e (tO C oa)) : PE X (.Subscript e (.Slice none none (some (.UnaryOp .USub (.Constant (.int 1) k p1) p2)) p3) pos) (tF C .ol (un gRev oa)) :=
  PE.mono (pe_revL ha) fun σ H Q h => tO.imp (oneF h) fun x H1 ⟨O, d1, d, dm, r1, e1, q⟩ => by
    unfold gRev at e1
    split at e1
    · cases e1
      obtain ⟨a, vs, rfl, t, l⟩ := r1
      rw [hX]
      exact ⟨a, vs, rfl, t, fun p hp => q p _ _ rfl hp l.reverse⟩
    · cases e1
/-! ### answers of any kind -/
theorem rx_nl {m : M Cr.D} (h : PE X e (tE C m)) : PE X e (tF C .ox (nlE m)) := PE.mono h fun σ H Q ⟨ε, F, P, R, h⟩ => by
  have S : Stp C σ P (OkF C .ox σ Q P) := OkF.stp
  unfold nlE at h
  refine tE.imp (gE_bd S R h) fun v H1 ⟨d, ε1, F1, R1, y1, r1, h1⟩ => ?_
  by_cases hs : nolst d = true
  · rw [if_pos hs] at h1
    exact h1 v H1 F1 [] R1.nilP Fr.refl (fun a z => by cases z) (.inr ⟨hs, rfl, r1.weak fun a z => z.elim (fun z => .inl (z.elim id fun z => by cases z)) .inr⟩)
  · rw [if_neg hs] at h1
    exact h1.elim
theorem gTF_bd {md : Md} {σ : L2.St} {H : Hp} {Q : VK} {t : M Bool} {a b : M Cr.D} (h : tF C md (ifE t a b) σ H Q) : tT C t σ H fun k H1 => if k = true then tF C md a σ H1 Q else tF C md b σ H1 Q := by
  obtain ⟨ε, F, P, R, h⟩ := h
  refine tT.imp (gT_bd OkF.stp R h) fun k H1 ⟨ε1, F1, R1, y1, h1⟩ => ?_
  cases k with
  | true => exact iteT ⟨ε1, F1, P, R1, h1⟩
  | false => exact iteF ⟨ε1, F1, P, R1, h1⟩
theorem rf_if {md : Md} {c a b : Expr} {t : M Bool} {ma mb : M Cr.D} (hc : PT X c (tT C t)) (ha : PE X a (tF C md ma)) (hb : PE X b (tF C md mb)) : PE X (.IfExp c a b pos) (tF C md (ifE t ma mb)) :=
  PE.mono (pe_ifExp hc ha hb) fun σ H Q h => gTF_bd h
/-- return x, x a list of its own, where the answer may be of any kind -/
theorem retOX_run {D : Ends} {σ : L2.St} {H : Hp} (hp : C.pin i = false) (hr : C.rm = .ox) (hG : C.G i = .ol) (h : tS C (retO i) D σ H) : tRet (tVar i) D σ H := by
  obtain ⟨ε, F, P, R, h⟩ := h
  obtain ⟨d, e, h1⟩ := (OkS.stp.bd h).rd
  have h2 := h1 H F R Fr.refl
  obtain ⟨v, hv, r⟩ := R.val i d e
  obtain ⟨R1, r1⟩ := R.letgo e hv
  rw [hG] at r1
  exact ⟨v, hv, h2 v σ H _ (F i) R1 ⟨fun _ _ h _ => h, fun j a z => by
    by_cases ej : j = i
    · subst ej; rw [Fset_same] at z; cases z
    · rw [Fset_ne ej] at z; exact .inl ⟨j, z⟩, fun _ h => h⟩ Pin.refl (fun a ha => .inl ⟨i, ha⟩) (by rw [hr]; exact .inl r1)⟩
theorem rs_retOX (hp : C.pin i = false) (hr : C.rm = .ox) (hG : C.G i = .ol) (h : PE X e (tVar i)) : PS X (.Return (some e) pos) (tS C (retO i)) := PS.mono (ps_ret h) fun D σ H q => retOX_run hp hr hG q
end
end Lk

end
section
set_option maxRecDepth 100000
set_option maxHeartbeats 4000000
/-! Lk32: repr(a) == repr(b). -/
namespace Lk
open PySem PySem.Spec PyProof.Rows L2 Cr
mutual
theorem dEq_eq : ∀ (x y : D), dEq x y = true → x = y
  | .non, y, h => by cases y <;> first | rfl | (simp [dEq] at h)
  | .bl a, y, h => by cases y <;> first | (simp [dEq] at h; done) | (simp [dEq] at h; rw [h])
  | .int a, y, h => by cases y <;> first | (simp [dEq] at h; done) | (simp [dEq] at h; rw [h])
  | .str a, y, h => by cases y <;> first | (simp [dEq] at h; done) | (simp [dEq] at h; rw [h])
  | .tup xs, y, h => by
    cases y with
    | tup ys => rw [dEqL_eq xs ys (by simpa [dEq] using h)]
    | _ => simp [dEq] at h
  | .lst xs, y, h => by
    cases y with
    | lst ys => rw [dEqL_eq xs ys (by simpa [dEq] using h)]
    | _ => simp [dEq] at h
  | .dct _, y, h => by cases y <;> simp [dEq] at h
  | .dht _, y, h => by cases y <;> simp [dEq] at h
  | .own _, y, h => by cases y <;> simp [dEq] at h
  | .ins _ _, y, h => by cases y <;> simp [dEq] at h
theorem dEqL_eq : ∀ (xs ys : List D), dEqL xs ys = true → xs = ys
  | [], [], _ => rfl
  | [], _ :: _, h => by simp [dEqL] at h
  | _ :: _, [], h => by simp [dEqL] at h
  | x :: xs, y :: ys, h => by
    simp only [dEqL, Bool.and_eq_true] at h
    rw [dEq_eq x y h.1, dEqL_eq xs ys h.2]
end
mutual
theorem rp_ok : ∀ (n : Nat) (d : D), rp n d = true → sh n d = true ∧ (toPy d).showable = true ∧ (toPy d).leavesShort 12 = true ∧ (toPy d).bulk = blk' d ∧ (toPy d).hasDict = false
  | n, .non, _ => by cases n <;> exact ⟨rfl, rfl, rfl, rfl, rfl⟩
  | n, .bl _, _ => by cases n <;> exact ⟨rfl, rfl, rfl, rfl, rfl⟩
  | n, .int i, h => by
    have h : i.natAbs < 10000000000 := by cases n <;> simpa [rp] using h
    have h10 : (toString i).length ≤ 10 + 1 := int_text_length_le10 (by decide) (by rw [show (10 : Nat) ^ 10 = 10000000000 from by decide]; exact h)
    have hs : (PyData.shown (.int i)).length ≤ 12 := by
      have e : (PyData.shown (.int i)) = Str.ofString (toString i) := rfl
      rw [e, PySem.ofString_length]
      omega
    refine ⟨by cases n <;> rfl, ?_, ?_, rfl, rfl⟩
    · show decide (i.natAbs.log2 < 1920) = true
      rw [decide_eq_true_eq]
      by_cases z : i.natAbs = 0
      · rw [z]; decide
      · have := (Nat.log2_lt z (k := 40)).mpr (Nat.lt_of_lt_of_le h (by decide))
        omega
    · simp only [toPy, PyData.leavesShort, decide_eq_true_eq]
      exact hs
  | n + 1, .tup xs, h => by
    obtain ⟨a, b, c, d, e⟩ := rpL_ok n xs (by simpa [rp] using h)
    exact ⟨by simpa [sh] using a, by simpa [toPy, PyData.showable] using b, by simpa [toPy, PyData.leavesShort] using c, by simpa [toPy, PyData.bulk, blk'] using d, by simpa [toPy, PyData.hasDict] using e⟩
  | n + 1, .lst xs, h => by
    obtain ⟨a, b, c, d, e⟩ := rpL_ok n xs (by simpa [rp] using h)
    exact ⟨by simpa [sh] using a, by simpa [toPy, PyData.showable] using b, by simpa [toPy, PyData.leavesShort] using c, by simpa [toPy, PyData.bulk, blk'] using d, by simpa [toPy, PyData.hasDict] using e⟩
  | 0, .tup _, h | 0, .lst _, h => by simp [rp] at h
  | n, .str _, h | n, .dct _, h | n, .dht _, h | n, .own _, h | n, .ins _ _, h => by cases n <;> simp [rp] at h
theorem rpL_ok : ∀ (n : Nat) (xs : List D), rpL n xs = true → shL n xs = true ∧ PyData.showableAll (toPyL xs) = true ∧ PyData.leavesShortAll 12 (toPyL xs) = true ∧ PyData.bulkAll (toPyL xs) = blkL xs ∧ PyData.hasDictAll (toPyL xs) = false
  | n, [], _ => ⟨rfl, rfl, rfl, rfl, rfl⟩
  | n, x :: xs, h => by
    simp only [rpL, Bool.and_eq_true] at h
    obtain ⟨a, b, c, d, e⟩ := rp_ok n x h.1
    obtain ⟨a', b', c', d', e'⟩ := rpL_ok n xs h.2
    simp only [shL, toPyL, PyData.showableAll, PyData.leavesShortAll, PyData.bulkAll, PyData.hasDictAll, blkL, a, b, c, d, e, a', b', c', d', e', Bool.and_self, Bool.or_self]
    refine ⟨?_, ?_, ?_, ?_, ?_⟩ <;> first | trivial | rfl
end
/-- d may be shown -/
structure ShOk (d : PyData) : Prop where
  s : d.showable = true
  n : d.hasDict = false
  l : d.shown.length ≤ sizeLine
  dp : d.depth ≤ 60
theorem rpOk_sh {d : D} (h : rpOk d = true) : sh 60 d = true ∧ ShOk (toPy d) := by
  unfold rpOk at h
  rw [Bool.and_eq_true, decide_eq_true_eq] at h
  obtain ⟨a, b, c, e, f⟩ := rp_ok 60 d h.1
  exact ⟨a, b, f, PyData.shown_fits_bulk (B := 12) (by decide) (by decide) c (by rw [e]; exact h.2), (sh_lay 60 d a).2⟩
section
variable {X : Cx} {C : Cc} {e1 e2 : Expr} {oa ob : Opd} {p1 p2 q1 q2 pos : Pos}
def rRepr (K : PySem.W.Frag) : List V → Hp → VK → Prop := fun xs H Q => ∃ x d, xs = [x] ∧ Dp K H x d ∧ ShOk d ∧ Q (.str d.shown) H
theorem call_reprD (hg : X.A.guards = some []) (hu : X.A.units + 65 < cLine) : CallR X (.builtin "repr") (rRepr X.K) := by
  intro pins s σ H xs us Q I r ⟨x, d, e, hd, ok, q⟩
  subst e
  obtain ⟨u, rfl, ru⟩ := r.one
  obtain ⟨as, rd⟩ := Dp.reads I d x u hd ru
  have fin : ∀ {a : Addr}, Reads s.heap (.ref a) d as → wpAny (model X.prog X.w) X.A (call (.builtin "repr") [.ref a]) (EP X pins σ Q) X.xe s := fun {a} rd =>
    repr_of_reads' rd ok.s (fun z => by rw [ok.n] at z; cases z) hg (by have := ok.dp; omega) (fun _ _ z => z) (fun h' u' tk hk => ⟨.str d.shown, H, I.kept (t' := tk) hk, ⟨u', rfl⟩, q⟩) ok.l
  cases hd with
  | non => cases ru; exact PySem.P.repr_of_none ⟨.str _, H, I.tok _, ⟨_, rfl⟩, q⟩
  | bl b => cases ru; exact PySem.P.repr_of_bool ⟨.str _, H, I.tok _, ⟨_, rfl⟩, q⟩
  | int i =>
    obtain ⟨t, rfl⟩ := ru
    exact PySem.P.repr_of_int (by have := ok.s; simpa [PyData.showable] using this) ⟨.str _, H, I.tok _, ⟨_, rfl⟩, q⟩
  | str y =>
    obtain ⟨t, rfl⟩ := ru
    exact PySem.P.repr_of_str ⟨.str _, H, I.tok _, ⟨_, rfl⟩, q⟩ (by have := ok.l; simpa [PyData.shown] using this)
  | tup _ _ => cases ru; exact fin rd
  | lst _ _ => cases ru; exact fin rd
theorem opv_bd {σ : L2.St} {H : Hp} {F : Fp} {P : Addr → Prop} {ε : Sl} {β : Type} {f : D → M β} {Φ : Hp → Fp → Out β → Prop} (S : Stp C σ P Φ) (R : RepE C.K C.G H σ ε F P) (h : Φ H F (bd (opv oa) f ε)) :
    tO C oa σ H fun x H1 => ∃ d ε1 F1, RepE C.K C.G H1 σ ε1 F1 P ∧ Fr F H F1 H1 ∧ RepW C.K (Own F1 P) H1 d x ∧ Φ H1 F1 (f d ε1) := by
  cases oa with
  | d m => exact tE.imp (gE_bd S R h) fun v H1 ⟨d, ε1, F1, R1, y1, r1, h1⟩ => ⟨d, ε1, F1, R1, y1, r1.w, h1⟩
  | o i =>
    obtain ⟨d, e, h1⟩ := (S.bd h).rd
    obtain ⟨v, hv, r⟩ := R.val i d e
    exact ⟨v, hv, d, ε, F, R, Fr.refl, R.slot e hv, h1 _ _ R Fr.refl⟩
theorem guard_bd {σ : L2.St} {H : Hp} {F : Fp} {P : Addr → Prop} {ε : Sl} {β : Type} {k : Bool} {f : Unit → M β} {Q : β → Sl → Hp → Fp → Prop} (h : Okk C σ H F P (bd (guardM k) f ε) Q) : k = true ∧ Okk C σ H F P (f () ε) Q := by
  unfold bd guardM at h
  cases k with
  | true => exact ⟨rfl, by simpa using h⟩
  | false => simp only [Bool.false_eq_true, if_false] at h; exact h.elim
theorem reprC_run {ne : Bool} {σ : L2.St} {H : Hp} {Q : VK} {R : V → V → Hp → Prop} (hR : ∀ s H', Q (.bl (!ne)) H' → R (.str s) (.str s) H') (h : tE C (reprC ne oa ob) σ H Q) :
    tCB (rRepr C.K) (tAs C [oa]) σ H fun x H1 => tCB (rRepr C.K) (tAs C [ob]) σ H1 fun y H2 => R x y H2 := by
  obtain ⟨ε, F, P, R, h⟩ := h
  refine tO.imp (opv_bd Okk.stp R h) fun x H1 ⟨d1, ε1, F1, R1, y1, r1, h1⟩ => ?_
  obtain ⟨hr, h2⟩ := guard_bd h1
  obtain ⟨hs, ok⟩ := rpOk_sh hr
  refine ⟨x, toPy d1, rfl, dp_w hs r1, ok, ?_⟩
  refine tO.imp (opv_bd Okk.stp R1 h2) fun y H2 ⟨d2, ε2, F2, R2, y2, r2, h3⟩ => ?_
  by_cases he : dEq d1 d2 = true
  · obtain rfl := dEq_eq d1 d2 he
    rw [if_pos he] at h3
    exact ⟨y, toPy d1, rfl, dp_w hs r2, ok, hR _ _ (Okk.here h3 R2 _ rfl)⟩
  · rw [if_neg he] at h3
    exact h3.elim
theorem re_reprNe (hX : X.K = C.K) (hgd : X.A.guards = some []) (hu : X.A.units + 65 < cLine) (hg : Gl X "repr") (hm : X.mg "repr" = none) (ha : PE X e1 (tO C oa)) (hb : PE X e2 (tO C ob))
    (na : starEach [e1] X.env = (false, eval e1 X.env) :: starEach [] X.env := by rfl) (nb : starEach [e2] X.env = (false, eval e2 X.env) :: starEach [] X.env := by rfl) :
    PE X (.Compare (.Call (.Name "repr" p1) [e1] [] q1) [.NotEq] [.Call (.Name "repr" p2) [e2] [] q2] pos) (tE C (reprC true oa ob)) :=
  PE.mono (pe_cmpR op_ne (pe_callB (call_reprD hgd hu) hg hm (by decide +kernel) (pa_cons ha pa_nil na) (by decide) (by decide) na (by rfl)) (pe_callB (call_reprD hgd hu) hg hm (by decide +kernel) (pa_cons hb pa_nil nb) (by decide) (by decide) nb (by rfl)) (nomark _)) fun σ H Q h => by
    rw [hX]
    exact reprC_run (R := fun x y H2 => rNe x y H2 Q) (fun s H' q => ⟨rfl, by simpa using q⟩) h
theorem re_reprEq (hX : X.K = C.K) (hgd : X.A.guards = some []) (hu : X.A.units + 65 < cLine) (hg : Gl X "repr") (hm : X.mg "repr" = none) (ha : PE X e1 (tO C oa)) (hb : PE X e2 (tO C ob))
    (na : starEach [e1] X.env = (false, eval e1 X.env) :: starEach [] X.env := by rfl) (nb : starEach [e2] X.env = (false, eval e2 X.env) :: starEach [] X.env := by rfl) :
    PE X (.Compare (.Call (.Name "repr" p1) [e1] [] q1) [.Eq] [.Call (.Name "repr" p2) [e2] [] q2] pos) (tE C (reprC false oa ob)) :=
  PE.mono (pe_cmpR op_eq (pe_callB (call_reprD hgd hu) hg hm (by decide +kernel) (pa_cons ha pa_nil na) (by decide) (by decide) na (by rfl)) (pe_callB (call_reprD hgd hu) hg hm (by decide +kernel) (pa_cons hb pa_nil nb) (by decide) (by decide) nb (by rfl)) (nomark _)) fun σ H Q h => by
    rw [hX]
    exact reprC_run (R := fun x y H2 => rEq x y H2 Q) (fun s H' q => ⟨rfl, by simpa using q⟩) h
end
end Lk

end
section
set_option maxRecDepth 100000
set_option maxHeartbeats 4000000
/-! Lk33: sorted(xs), xs a list of nested tuples of whole numbers. -/
namespace Lk
open PySem PySem.Spec PyProof.Rows L2 Cr
mutual
theorem alk_py : ∀ (x y : D), alkD x y = true → PySem.W.alike (toPy x) (toPy y) = true
  | .int _, .int _, _ => by simp [toPy, PySem.W.alike]
  | .tup xs, .tup ys, h => by
    simp only [toPy, PySem.W.alike]
    exact alkL_py xs ys (by simpa [alkD] using h)
  | .non, _, h | .bl _, _, h | .str _, _, h | .lst _, _, h | .dct _, _, h | .dht _, _, h | .own _, _, h | .ins _ _, _, h => by simp [alkD] at h
  | .int _, .non, h | .int _, .bl _, h | .int _, .str _, h | .int _, .lst _, h | .int _, .tup _, h | .int _, .dct _, h | .int _, .dht _, h | .int _, .own _, h | .int _, .ins _ _, h => by simp [alkD] at h
  | .tup _, .non, h | .tup _, .bl _, h | .tup _, .str _, h | .tup _, .lst _, h | .tup _, .int _, h | .tup _, .dct _, h | .tup _, .dht _, h | .tup _, .own _, h | .tup _, .ins _ _, h => by simp [alkD] at h
theorem alkL_py : ∀ (xs ys : List D), alkL xs ys = true → PySem.W.alikeAll (toPyL xs) (toPyL ys) = true
  | [], _, _ => by simp [toPyL, PySem.W.alikeAll]
  | _ :: _, [], _ => by simp [toPyL, PySem.W.alikeAll]
  | x :: xs, y :: ys, h => by
    simp only [alkL, Bool.and_eq_true] at h
    simp only [toPyL, PySem.W.alikeAll, alk_py x y h.1, alkL_py xs ys h.2, Bool.and_self]
end
mutual
theorem lt_py : ∀ (n m : Nat) (x y : D), sh n x = true → sh m y = true → alkD x y = true → ltD x y = PySem.W.dataLt (toPy x) (toPy y)
  | _, _, .int i, .int j, _, _, _ => by simp only [toPy, ltD, PySem.W.dataLt_int]
  | n + 1, m + 1, .tup xs, .tup ys, h, h', a => by
    simp only [toPy, ltD]
    rw [PySem.W.dataLt_tuple]
    exact ltL_py n m xs ys (by simpa [sh] using h) (by simpa [sh] using h') (by simpa [alkD] using a)
  | 0, _, .tup _, .tup _, h, _, _ => by simp [sh] at h
  | _, 0, .tup _, .tup _, _, h, _ => by simp [sh] at h
  | _, _, .non, _, _, _, h | _, _, .bl _, _, _, _, h | _, _, .str _, _, _, _, h | _, _, .lst _, _, _, _, h | _, _, .dct _, _, _, _, h | _, _, .dht _, _, _, _, h | _, _, .own _, _, _, _, h | _, _, .ins _ _, _, _, _, h => by simp [alkD] at h
  | _, _, .int _, .non, _, _, h | _, _, .int _, .bl _, _, _, h | _, _, .int _, .str _, _, _, h | _, _, .int _, .lst _, _, _, h | _, _, .int _, .tup _, _, _, h | _, _, .int _, .dct _, _, _, h | _, _, .int _, .dht _, _, _, h | _, _, .int _, .own _, _, _, h | _, _, .int _, .ins _ _, _, _, h => by simp [alkD] at h
  | _, _, .tup _, .non, _, _, h | _, _, .tup _, .bl _, _, _, h | _, _, .tup _, .str _, _, _, h | _, _, .tup _, .lst _, _, _, h | _, _, .tup _, .int _, _, _, h | _, _, .tup _, .dct _, _, _, h | _, _, .tup _, .dht _, _, _, h | _, _, .tup _, .own _, _, _, h | _, _, .tup _, .ins _ _, _, _, h => by simp [alkD] at h
theorem ltL_py : ∀ (n m : Nat) (xs ys : List D), shL n xs = true → shL m ys = true → alkL xs ys = true → ltL xs ys = PyProof.Rows.lexLt PyProof.Rows.itemOrd (PySem.W.keyToksAll (toPyL xs)) (PySem.W.keyToksAll (toPyL ys))
  | _, _, [], [], _, _, _ => by
    have e : PyProof.Rows.lexLt PyProof.Rows.itemOrd (PySem.W.keyToksAll []) (PySem.W.keyToksAll []) = false := PyProof.Rows.lex_irrefl _
    simp only [toPyL, ltL]
    exact e.symm
  | _, _, [], y :: ys, _, _, _ => by
    simp only [toPyL, ltL]
    simp [PySem.W.keyToksAll, PyProof.Rows.lexLt, itemLt]
  | _, _, x :: xs, [], _, _, _ => by
    simp only [toPyL, ltL]
    simp [PySem.W.keyToksAll, PyProof.Rows.lexLt, itemLt]
  | n, m, x :: xs, y :: ys, h, h', a => by
    simp only [shL, Bool.and_eq_true] at h h'
    simp only [alkL, Bool.and_eq_true] at a
    simp only [toPyL, ltL]
    rw [PySem.W.dataLt_cons (alk_py x y a.1), eqv_py n m x y h.1 h'.1, lt_py n m x y h.1 h'.1 a.1, ltL_py n m xs ys h.2 h'.2 a.2]
end
theorem shL_mem {n : Nat} : ∀ {xs : List D}, shL n xs = true → ∀ x ∈ xs, sh n x = true
  | x :: xs, h, y, hy => by
    simp only [shL, Bool.and_eq_true] at h
    rcases List.mem_cons.mp hy with rfl | hy
    · exact h.1
    · exact shL_mem h.2 y hy
def SortOk (xs : List D) : Prop := xs.all tupNE = true ∧ shL DEP xs = true ∧ (∀ x ∈ xs, ∀ y ∈ xs, alkD x y = true) ∧ xs.length ≤ LIM
theorem sort_py {xs : List D} (h : SortOk xs) : xs.mergeSort (PySem.W.dataLe false toPy) = xs.mergeSort leD := by
  have e := List.map_mergeSort (f := id) (r := PySem.W.dataLe false toPy) (s := leD) (l := xs) fun a ha b hb => by
    rw [PySem.W.dataLe_eq]
    show (!PySem.W.dataLt (toPy b) (toPy a)) = !ltD b a
    rw [lt_py DEP DEP b a (shL_mem h.2.1 b hb) (shL_mem h.2.1 a ha) (h.2.2.1 b hb a ha)]
  simpa using e
def rSortN (K : PySem.W.Frag) : List V → Hp → VK → Prop := fun vs H Q => ∃ (a : Addr) (xs : List V) (ds : List D) (O : Addr → Prop), vs = [V.ref a] ∧ SqL K H a xs ∧ RepL K O H ds xs ∧ SortOk ds ∧
  ∀ ys p, RepL K O H (ds.mergeSort leD) ys → H p = none → Q (.ref p) (upd H p (.lst ys))
theorem tup_ref {K : PySem.W.Frag} {O : Addr → Prop} {H : Hp} {d : D} {x : V} (h : tupNE d = true) (r : Rep K O H d x) : ∃ t, x = .ref t := by
  cases d with
  | tup xs => obtain ⟨a, vs, e, _⟩ := r; exact ⟨a, e⟩
  | _ => cases h
section
variable {X : Cx}
theorem each_rep {K : PySem.W.Frag} {O : Addr → Prop} {H : Hp} : ∀ {ds : List D} {xs : List V} {us : List Value}, ds.all tupNE = true → RepL K O H ds xs → Vals xs us → PySem.W.EachIs (fun v d => ∃ t, v = Value.ref t ∧ Rep K O H d (.ref t)) us ds
  | [], _, _, _, r, v => by cases r; cases v; exact .nil
  | d :: ds, _, _, h, ⟨x, r, e, r1, r2⟩, v => by
    subst e
    cases v with
    | cons h1 h2 =>
      simp only [List.all_cons, Bool.and_eq_true] at h
      obtain ⟨t, rfl⟩ := tup_ref h.1 r1
      exact .cons ⟨t, h1, r1⟩ (each_rep h.2 r2 h2)
theorem rep_each {K : PySem.W.Frag} {O : Addr → Prop} {H : Hp} : ∀ {ds : List D} {us : List Value}, PySem.W.EachIs (fun v d => ∃ t, v = Value.ref t ∧ Rep K O H d (.ref t)) us ds → ∃ xs, RepL K O H ds xs ∧ Vals xs us
  | _, _, .nil => ⟨[], rfl, .nil⟩
  | _, _, .cons ⟨t, e, r⟩ q => by
    obtain ⟨xs, a, b⟩ := rep_each q
    exact ⟨.ref t :: xs, ⟨_, _, rfl, r, a⟩, .cons e b⟩
theorem cr_sortN (hu : X.A.units + 65 < cLine) : CallR X (.builtin "sorted") (rSortN X.K) := by
  intro pins s σ H vs us Q I r ⟨a, xs, ds, O, e, hs, hl, ok, q⟩
  subst e
  obtain ⟨its, rv, pl, hz⟩ := I.list hs
  obtain ⟨u, rfl, ru⟩ := vals1 r
  obtain rfl : u = Value.ref a := ru
  have ea := each_rep ok.1 hl rv
  have er : PySem.W.EachIs (fun v b => ∃ as, Reads s.heap v (toPy b) as) its ds := (PySem.W.each_mem ea).mono fun v d h => by
    obtain ⟨⟨t, e, r⟩, hd⟩ := h
    exact Dp.reads I _ (.ref t) v (dp_of DEP d _ (shL_mem ok.2.1 d hd) r) e
  have hal : PySem.W.AllAlike (ds.map toPy) := fun d hd d' hd' => by
    obtain ⟨b, hb, rfl⟩ := List.mem_map.mp hd
    obtain ⟨b', hb', rfl⟩ := List.mem_map.mp hd'
    exact alk_py _ _ (ok.2.2.1 b hb b' hb')
  have hso : PySem.W.Sortable (ds.map toPy) := .inl fun d hd => by
    obtain ⟨b, hb, rfl⟩ := List.mem_map.mp hd
    have := List.all_eq_true.mp ok.1 b hb
    cases b with
    | tup zs => cases zs with
      | nil => cases this
      | cons z zs => exact ⟨_, _, rfl⟩
    | _ => cases this
  refine PySem.W.sorted_data (β := D) (enc := toPy) (bs := ds) pl.isList ea er hal hso ?_ (fun d hd => ?_) fun out ho eo => ?_
  · rw [← ea.length, ← rv.length]; exact hz
  · have := (sh_lay DEP d (shL_mem ok.2.1 d hd)).2
    have : DEP = 60 := rfl
    omega
  · rw [sort_py ok] at eo
    obtain ⟨ys, rl, vl⟩ := rep_each eo
    refine ⟨.ref _, upd H _ (.lst ys), I.laid (t' := s.toks) (fun b o e => sortedAll_old e) (Nat.le_succ _) ⟨?_, out, ?_⟩, rfl, q ys _ rl (I.hok.fresh (Nat.le_succ _))⟩
    · rw [vl.length, ho, ← ea.length, ← rv.length]; exact hz
    · obtain ⟨n, hn⟩ := sortedAll_at s.heap its out.toArray
      exact ⟨n, vl, hn⟩
end
theorem cn_sortN {K : PySem.W.Frag} : CallN K (rSortN K) bSortN := fun O H vs ds d Q dm r e q => by
  unfold bSortN at e
  split at e
  · rename_i xs
    split at e
    · rename_i ok
      cases e
      obtain ⟨v, rfl, a, us, rfl, t, l⟩ := wl1 r
      exact ⟨a, us, xs, O, rfl, t, l, ok, fun ys p rl hn => q p _ _ rfl hn rl⟩
    · cases e
  · cases e
end Lk

end
section
set_option maxRecDepth 100000
set_option maxHeartbeats 4000000
/-! Lk34: sorted(t), t a tuple of whole numbers. -/
namespace SrtO
open PySem PyProof.Rows Srt
section
variable {prog : Program} {w : World} {A : Around} {E : Value → Shared → Prop} {s : Shared}
theorem sorted_tupI {a : Addr} {vs : List Value} {ns : List Int} {o : Obj} {n : Nat} {Q : Value → Shared → Prop} (ho : s.heap.get? a = some o) (hc : o.cls = .type "tuple") (hd : o.data = .seq vs.toArray n) (hI : IntsAre vs ns) (hz : vs.length ≤ sizeLine)
    (h : ∀ (out : List Value) (h' : Heap) (p : Addr), Srtd ltIv out → Stb ltIv out vs → s.heap.get? p = none → (∀ b u, s.heap.get? b = some u → h'.get? b = some u) → (∃ e, h'.get? p = some (seqObj "list" out.toArray e)) → Q (.ref p) { s with heap := h' }) :
    wpAny (model prog w) A (call (.builtin "sorted") [.ref a]) Q E s := by
  refine Calls.call_function_entry kind_sorted plain_sorted entry_sorted (args_sorted1 _) ?_
  unfold Builtin.«sorted»
  refine wpAny_bind (m := checkCount "sorted" 1 1 _) (wpAny_pure ?_)
  refine wpAny_bind (PySem.wpAny_collect_seq a (.inr rfl) ho hc hd (fun h1 hk => ?_) (by rw [List.size_toArray]; exact hz))
  have ev : vs.toArray.toList = vs := by simp
  rw [ev]
  refine wpAny_bind (wpAny_newList ?_ hz)
  have hL : (h1.push (seqObj "list" vs.toArray 0)).get? h1.objs.size = some (seqObj "list" vs.toArray 0) := Heap.get?_push_size _ rfl
  show wpAny _ _ _ _ _ { s with heap := h1.push (seqObj "list" vs.toArray 0) }
  have hs1 : s.heap.get? h1.objs.size = none := by
    cases e : s.heap.get? h1.objs.size with
    | none => rfl
    | some u => exact absurd (Heap.lt_size (hk _ u e)) (Nat.lt_irrefl _)
  refine wpAny_bind (wpAny_holding (wpAny_call_entry slot_list_sort ⟨_, hL, rfl⟩ entry_list_sort (list_sort_ord swo_int hL hz (fun h2 => ints_sortable hI h2) fun out q1 q2 => ⟨_, rfl, ?_⟩) (args_list_sort _)))
  refine wpAny_pure ⟨_, rfl, h out _ _ q1 q2 hs1 (fun b u e => ?_) (sortedHeap_at hL)⟩
  have e1 := hk b u e
  have lt := Heap.lt_size e1
  rw [sortedHeap_old (Nat.ne_of_lt lt) (by rw [Heap.size_push]; exact Nat.lt_succ_of_lt lt)]
  exact Heap.get?_push_of_some _ e1
end
end SrtO
namespace Lk
open PySem PySem.Spec PyProof.Rows L2 Cr
/-- sorted(x), x a list or a tuple of whole numbers -/
def rSortedLT (K : PySem.W.Frag) : List V → Hp → VK → Prop := fun vs H Q => ∃ (a : Addr) (ns : List Int), vs = [V.ref a] ∧ (SqL K H a (ns.map V.int) ∨ SqT K H a (ns.map V.int)) ∧
  ∀ (ns' : List Int) (p : Addr), ns'.Perm ns → ns'.Pairwise (· ≤ ·) → H p = none → Q (.ref p) (upd H p (.lst (ns'.map V.int)))
theorem cr_sortedLT {X : Cx} : CallR X (.builtin "sorted") (rSortedLT X.K) := by
  intro pins s σ H vs us Q I r h
  obtain ⟨a, ns, rfl, hs | hs, q⟩ := h
  · exact cr_sortedI pins s σ H _ us Q I r ⟨a, ns, rfl, hs, q⟩
  obtain ⟨its, rv, pl, hz⟩ := I.tuple hs
  obtain ⟨o, ho, hc, n, hd⟩ := id pl
  rw [Vals.ref1 r]
  have hi := rv.ints
  refine SrtO.sorted_tupI ho hc hd hi (by rw [← rv.length]; exact hz) fun out h' p h1 h2 hp hk ⟨e, he⟩ => ?_
  obtain ⟨k1, k2, k3⟩ := SrtO.ints_out hi h1 h2
  have hlen : ((out.map SrtO.iv).map V.int).length ≤ sizeLine := by
    rw [List.length_map, k2.length_eq]
    rw [List.length_map] at hz
    exact hz
  have hn : H p = none := by
    cases e : H p with
    | none => rfl
    | some u => obtain ⟨z, y⟩ := objOk_get (I.hok p u e); rw [hp] at y; cases y
  exact ⟨.ref p, upd H p (.lst ((out.map SrtO.iv).map V.int)), Lk.Inv.put (t' := s.toks) I hk hp ⟨hlen, out, e, vals_of_ints k1, he⟩, rfl, q _ p k2 k3 hn⟩
theorem cn_sortLT {K : PySem.W.Frag} : CallN K (rSortedLT K) bSortI := fun O H vs ds d Q dm r e q => by
  have fin : ∀ {xs : List D} {us : List V} {ns : List Int} {a : Addr}, intsD xs = some ns → RepL K O H xs us → (SqL K H a us ∨ SqT K H a us) → d = .lst ((isort ns).map .int) → vs = [.ref a] → rSortedLT K vs H Q := fun {xs us ns a} h l t ed ev => by
    rw [intsD_rep h l] at t
    refine ⟨a, ns, ev, t, fun ns' p hp hw hn => ?_⟩
    have : ns' = isort ns := pw_le_eq (hp.trans (isort_perm ns).symm) hw (isort_pw ns)
    subst this
    exact q p _ _ ed hn (ints_back _)
  unfold bSortI at e
  split at e
  · rename_i xs
    cases h : intsD xs with
    | none => rw [h] at e; cases e
    | some ns =>
      rw [h] at e
      cases e
      obtain ⟨v, rfl, a, us, rfl, t, l⟩ := wl1 r
      exact fin h l (.inl t) rfl rfl
  · rename_i xs
    cases h : intsD xs with
    | none => rw [h] at e; cases e
    | some ns =>
      rw [h] at e
      cases e
      obtain ⟨v, rfl, a, us, rfl, t, l⟩ := wl1 r
      exact fin h l (.inr t.sq) rfl rfl
  · cases e
/-! ### tests -/
section
variable {X : Cx} {C : Cc} {e o e1 e2 : Expr} {pos p1 p2 q1 q2 : Pos} {oa ob : Opd}
theorem din_run {σ : L2.St} {H : Hp} {Q : VK} (h : tE C (bin gDin oa ob) σ H Q) : tDIn (tO C oa) (tO C ob) σ H Q := tO.imp (two h) fun y H1 q => tO.imp q fun x H2 ⟨O, d1, d2, d, dm, r1, r2, e, qq⟩ => by
  unfold gDin at e
  split at e
  · cases e
    obtain ⟨a, r, rfl, g, hs, _⟩ := dget_of r2 r1
    exact ⟨a, r, rfl, g, by rw [hs]; exact qq _ _ (fun _ _ h => h) rfl⟩
  · cases e
theorem dni_run {σ : L2.St} {H : Hp} {Q : VK} (h : tE C (bin gDni oa ob) σ H Q) : tDNotIn (tO C oa) (tO C ob) σ H Q := tO.imp (two h) fun y H1 q => tO.imp q fun x H2 ⟨O, d1, d2, d, dm, r1, r2, e, qq⟩ => by
  unfold gDni at e
  split at e
  · cases e
    obtain ⟨a, r, rfl, g, hs, _⟩ := dget_of r2 r1
    exact ⟨a, r, rfl, g, by rw [hs]; exact qq _ _ (fun _ _ h => h) rfl⟩
  · cases e
theorem rt_din (hu : X.A.units + 1 < cLine) (ha : PE X e (tO C oa)) (hb : PE X o (tO C ob)) (hm : behindInMarks .In o = false) : PT X (.Compare e [.In] [o] pos) (tT C (tstB (bin gDin oa ob))) :=
  PT.mono (pt_cmp (pc_din hu ha hb) hm) fun σ H Q h => din_run (test_run (R := fun _ _ => True) h)
theorem rt_dni (hu : X.A.units + 1 < cLine) (ha : PE X e (tO C oa)) (hb : PE X o (tO C ob)) (hm : behindInMarks .NotIn o = false) : PT X (.Compare e [.NotIn] [o] pos) (tT C (tstB (bin gDni oa ob))) :=
  PT.mono (pt_cmp (pc_dnotin hu ha hb) hm) fun σ H Q h => dni_run (test_run (R := fun _ _ => True) h)
theorem rt_reprNe (hX : X.K = C.K) (hgd : X.A.guards = some []) (hu : X.A.units + 65 < cLine) (hg : Gl X "repr") (hm : X.mg "repr" = none) (ha : PE X e1 (tO C oa)) (hb : PE X e2 (tO C ob))
    (na : starEach [e1] X.env = (false, eval e1 X.env) :: starEach [] X.env := by rfl) (nb : starEach [e2] X.env = (false, eval e2 X.env) :: starEach [] X.env := by rfl) :
    PT X (.Compare (.Call (.Name "repr" p1) [e1] [] q1) [.NotEq] [.Call (.Name "repr" p2) [e2] [] q2] pos) (tT C (tstB (reprC true oa ob))) :=
  PT.mono (pt_cmpR op_ne (pe_callB (call_reprD hgd hu) hg hm (by decide +kernel) (pa_cons ha pa_nil na) (by decide) (by decide) na (by rfl)) (pe_callB (call_reprD hgd hu) hg hm (by decide +kernel) (pa_cons hb pa_nil nb) (by decide) (by decide) nb (by rfl)) (nomark _)) fun σ H Q h => by
    rw [hX]
    exact reprC_run (R := fun x y H2 => rNe x y H2 fun v H3 => ∃ k, v = .bl k ∧ Q k H3) (fun s H' q => ⟨rfl, by simpa using q⟩) (test_run (R := fun _ _ => True) h)
theorem rt_reprEq (hX : X.K = C.K) (hgd : X.A.guards = some []) (hu : X.A.units + 65 < cLine) (hg : Gl X "repr") (hm : X.mg "repr" = none) (ha : PE X e1 (tO C oa)) (hb : PE X e2 (tO C ob))
    (na : starEach [e1] X.env = (false, eval e1 X.env) :: starEach [] X.env := by rfl) (nb : starEach [e2] X.env = (false, eval e2 X.env) :: starEach [] X.env := by rfl) :
    PT X (.Compare (.Call (.Name "repr" p1) [e1] [] q1) [.Eq] [.Call (.Name "repr" p2) [e2] [] q2] pos) (tT C (tstB (reprC false oa ob))) :=
  PT.mono (pt_cmpR op_eq (pe_callB (call_reprD hgd hu) hg hm (by decide +kernel) (pa_cons ha pa_nil na) (by decide) (by decide) na (by rfl)) (pe_callB (call_reprD hgd hu) hg hm (by decide +kernel) (pa_cons hb pa_nil nb) (by decide) (by decide) nb (by rfl)) (nomark _)) fun σ H Q h => by
    rw [hX]
    exact reprC_run (R := fun x y H2 => rEq x y H2 fun v H3 => ∃ k, v = .bl k ∧ Q k H3) (fun s H' q => ⟨rfl, by simpa using q⟩) (test_run (R := fun _ _ => True) h)
end
/-! ### y = [.. for x in a slot's own list] on one line -/
section
variable {X : Cx} {C : Cc} {elt tg l : Expr} {ifs : List Expr} {scope : Scope} {own : List (Str × Nat)} {pos : Pos} {t : Tg} {c : M Bool} {x : M D} {vs : List Nat} {i : Nat}
theorem rs_setLcO {j : Nat} {y : Str} {py spos : Pos} (hX : X.K = C.K) (hc : X.calm = true) (hN : X.N.Nodup) (hy : X.N[j]? = some y) (hyl : X.env.scope.names.lookup y = some .local) (hsw : swapsWith (.ListComp elt [⟨tg, l, ifs, 0⟩] scope pos) (some (.Name y py)) spos.line X.env = pure true)
    (hi : PE X l (tVar i)) (hGi : C.G i = .ol) (hiv : i ∉ vs) (ok : BlkOk X.N X.env.scope scope own) (hv : own.map (·.2) = vs) (hG : ∀ v ∈ vs, C.G v = .dat)
    (hg : InB X scope fun Y => PG Y tg (tG (C.blk vs) t)) (ht : InB X scope fun Y => PTs Y ifs (tT (C.blk vs) c)) (he : InB X scope fun Y => PE Y elt (tE (C.blk vs) x))
    (hs : ∀ x, foldedSetIterable l X.env x = pure x := by intro _; rfl) : PS X (.Assign [.Name y py] (.ListComp elt [⟨tg, l, ifs, 0⟩] scope pos) spos) (tAsg (tF C .ol (lcO i vs t c x)) (gName j)) :=
  PS.mono (ps_setLc hc hN hy hyl hsw (pi_list hi) ok hg ht he hs) fun D σ H h => by rw [hv, hX]; exact lcO_run hG hGi hiv h
end
theorem hu65h {k : Nat} {A : Around} (r : L2H.RoomH k A) : A.units + 65 < cLine := by have := r.un; omega
end Lk

end
section
set_option maxRecDepth 100000
set_option maxHeartbeats 4000000
/-! Lk35: xs.index(y); slots that change their kind. -/
namespace Lk
open PySem PySem.Spec PyProof.Rows L2 Cr
theorem toPyL_get : ∀ {ys : List D} {j : Nat}, (toPyL ys)[j]? = ys[j]?.map toPy
  | [], j => by simp [toPyL]
  | y :: ys, 0 => by simp [toPyL]
  | y :: ys, j + 1 => by simp [toPyL, toPyL_get]
theorem shL_get {n : Nat} : ∀ {ys : List D} {j : Nat} {y : D}, shL n ys = true → ys[j]? = some y → sh n y = true
  | y :: ys, 0, z, h, e => by simp only [shL, Bool.and_eq_true] at h; simp at e; rw [← e]; exact h.1
  | y :: ys, j + 1, z, h, e => by simp only [shL, Bool.and_eq_true] at h; exact shL_get h.2 (by simpa using e)
section
variable {X : Cx} {C : Cc} {a b : Expr} {pos apos : Pos} {oa : Opd} {m : M D} {σ : L2.St} {H : Hp} {K : PySem.W.Frag} {O : Addr → Prop}
theorem idx_run {x y : V} {ys : List D} {d2 d : D} {Q : VK} (r1 : RepW K O H (.lst ys) x) (r2 : RepW K O H d2 y) (e : gIdx (.lst ys) d2 = some d) (q : ∀ v H', (∀ a u, H a = some u → H' a = some u) → Rep K O H' d v → Q v H') : rIndexD K x [y] H Q := by
  obtain ⟨p, vs, rfl, t, l⟩ := r1
  unfold gIdx at e
  simp only at e
  split at e
  · rename_i h
    cases ej : ys.findIdx? (fun z => eqv z d2) with
    | none => rw [ej] at e; cases e
    | some j =>
      rw [ej] at e
      cases e
      obtain ⟨h1, h2, h3⟩ := List.findIdx?_eq_some_iff_getElem.mp ej
      have sl : sh (DEP + 1) (.lst ys) = true := by simpa [sh] using h.2
      obtain ⟨la, lb⟩ := sh_lay _ d2 h.1
      obtain ⟨lc, ld⟩ := sh_lay _ _ sl
      refine ⟨p, y, toPy d2, toPyL ys, j, toPy ys[j], rfl, rfl, by have := dp_w (K := K) (O := O) (H := H) (v := .ref p) sl ⟨p, vs, rfl, t, l⟩; simpa only [toPy] using this, dp_w h.1 r2, ?_, ?_, by rw [toPyL_get, List.getElem?_eq_getElem h1]; rfl, ?_, fun m z' hm hz => ?_, q _ _ (fun _ _ z => z) rfl⟩
      · unfold SeqAt.shaped
        rw [show PyData.canLay0 (.list (toPyL ys)) = true by simpa only [toPy] using lc, show decide ((PyData.list (toPyL ys)).depth ≤ 64) = true from decide_eq_true (Nat.le_trans (by simpa only [toPy] using ld) (by decide))]
        rfl
      · unfold SeqAt.shaped
        rw [la, decide_eq_true (Nat.le_trans lb (by decide))]
        rfl
      · rw [← eqv_py _ _ _ _ (shL_get h.2 (List.getElem?_eq_getElem h1)) h.1]
        exact h2
      · rw [toPyL_get] at hz
        obtain ⟨z, hz1, rfl⟩ := Option.map_eq_some_iff.mp hz
        obtain ⟨hl, hz2⟩ := List.getElem?_eq_some_iff.mp hz1
        rw [← eqv_py _ _ _ _ (shL_get h.2 hz1) h.1, ← hz2]
        have := h3 m hm
        simpa using this
  · cases e
theorem lst_of {d : D} (h : isLst d = true) : ∃ ys, d = .lst ys := by
  cases d with
  | lst ys => exact ⟨ys, rfl⟩
  | _ => cases h
theorem lst_ty {d : D} {x : V} (h : isLst d = true) (r : RepW K O H d x) : tyV K "list" x H := by
  obtain ⟨ys, rfl⟩ := lst_of h
  obtain ⟨p, vs, rfl, t, _⟩ := r
  exact .inl ⟨rfl, vs, t⟩
theorem idx_runE {Q : VK} (h : tE C (idxE oa m) σ H Q) : tBM C.K "list" (rIndexD C.K) (tO C oa) (tCons (tE C m) tNil) σ H Q := by
  obtain ⟨ε, F, P, R, h⟩ := h
  have fin : ∀ {ε F P H1 x y} {d1 d2 : D}, isLst d1 = true → RepE C.K C.G H1 σ ε F P → RepW C.K (Own F P) H1 d1 x → RepW C.K (Own F P) H1 d2 y → Okk C σ H1 F P (opt (gIdx d1 d2) ε) (fun d _ H' F' => ∀ v, Rep C.K (Own F' P) H' d v → Q v H') → rIndexD C.K x [y] H1 Q := fun {ε F P H1 x y d1 d2} hl R r1 r2 h => by
    obtain ⟨ys, rfl⟩ := lst_of hl
    obtain ⟨d, e, q⟩ := h.opt
    exact idx_run r1 r2 e fun v H' k r => q H' F (R.grow k) (Fr.ext k) v r
  cases oa with
  | d ma =>
    obtain ⟨ε0, F0, P0, R0, h0⟩ := tE_bd R h
    refine ⟨ε0, F0, P0, R0, h0.imp fun d1 e1 H1 F1 R1 y1 q v r => ?_⟩
    obtain ⟨d1', ε1, F1', R1', y1', r1, h1⟩ := q v r
    by_cases hl : isLst d1' = true
    · rw [if_pos hl] at h1
      refine ⟨lst_ty hl r1.w, ?_⟩
      obtain ⟨ε2, F2, P2, R2, h2⟩ := tE_bd R1' h1
      refine ⟨ε2, F2, P2, R2, h2.imp fun d2 e2 H2 F2 R2 y2 q v r => ?_⟩
      obtain ⟨d2', ε2', F2', R2', y2', r2, h2'⟩ := q v r
      exact fin hl R2' (y2'.rep r1).w r2.w h2'
    · rw [if_neg hl] at h1
      exact h1.elim
  | o i =>
    obtain ⟨d0, e0, h0⟩ := h.bd.rd
    obtain ⟨v0, hv0, r0⟩ := R.val i d0 e0
    have h1 := h0 _ _ R Fr.refl
    by_cases hl : isLst d0 = true
    · rw [if_pos hl] at h1
      refine ⟨v0, hv0, lst_ty hl r0.w, ?_⟩
      obtain ⟨ε2, F2, P2, R2, h2⟩ := tE_bd R h1
      refine ⟨ε2, F2, P2, R2, h2.imp fun d2 e2 H2 F2 R2 y2 q v r => ?_⟩
      obtain ⟨d2', ε2', F2', R2', y2', r2, h2'⟩ := q v r
      obtain ⟨d1, e1, h3⟩ := h2'.bd.rd
      have h4 := h3 _ _ R2' Fr.refl
      obtain ⟨v1, hv1, r1⟩ := R2'.val i d1 e1
      rw [hv0] at hv1
      cases hv1
      cases hd : isLst d1 with
      | true => exact fin hd R2' r1.w r2.w h4
      | false =>
        have : gIdx d1 d2' = none := by
          cases d1 with
          | lst _ => cases hd
          | _ => rfl
        rw [this] at h4
        exact h4.elim
    · rw [if_neg hl] at h1
      exact h1.elim
/-- xs.index(y) -/
theorem re_idx {e : Expr} (h : PE X e (tBM C.K "list" (rIndexD C.K) (tO C oa) (tCons (tE C m) tNil))) : PE X e (tE C (idxE oa m)) := PE.mono h fun σ H Q h => idx_runE h
end
/-! ### slots that change their kind -/
theorem wip_get (e : Sl) (j : Nat) : ∀ vs, (wipeE e vs)[j]? = if j ∈ vs ∧ j < e.length then some none else e[j]?
  | [] => by simp [wipeE]
  | v :: vs => by
    have hl : ∀ vs, (wipeE e vs).length = e.length := fun vs => by induction vs with
      | nil => rfl
      | cons v vs ih => simp [wipeE, ih]
    unfold wipeE
    rw [List.getElem?_set, wip_get e j vs, hl]
    by_cases h : v = j
    · subst h
      by_cases h2 : v < e.length
      · simp [h2]
      · simp [h2]
    · have : ¬ j = v := fun z => h z.symm
      simp [h, this]
section
variable {C : Cc} {H : Hp} {σ : L2.St} {ε : Sl} {F : Fp} {P : Addr → Prop} {G' : Nat → Md} {vs : List Nat}
theorem wl (e : Sl) : ∀ vs, (wipeE e vs).length = e.length
  | [] => rfl
  | v :: vs => by simp [wipeE, wl e vs]
theorem reg_in (hG : ∀ i, i ∉ vs → C.G i = G' i) (R : RepE C.K C.G H σ ε F P) (he : (vs.all fun i => emptyAt ε i) = true) : RepE C.K G' H σ ε F P := by
  refine ⟨R.len, fun i d e => ?_, R.non, R.sep, R.out, R.dom⟩
  have hi : i ∉ vs := fun z => by
    have := List.all_eq_true.mp he i z
    unfold emptyAt at this
    rw [e] at this
    cases this
  rw [← hG i hi]
  exact R.val i d e
theorem reg_out (hG : ∀ i, i ∉ vs → C.G i = G' i) (hD : ∀ i ∈ vs, G' i = .dat) (R : RepE C.K G' H σ ε F P) : RepE C.K C.G H σ (wipeE ε vs) F P := by
  have hl := wl ε vs
  refine ⟨by rw [hl]; exact R.len, fun i d e => ?_, fun i hi => ?_, R.sep, R.out, R.dom⟩
  · rw [wip_get] at e
    by_cases h : i ∈ vs ∧ i < ε.length
    · rw [if_pos h] at e; cases e
    · rw [if_neg h] at e
      have hv : i ∉ vs := fun z => h ⟨z, (List.getElem?_eq_some_iff.mp e).1⟩
      rw [hG i hv]
      exact R.val i d e
  · by_cases hv : i ∈ vs
    · by_cases hs : ∃ d, ε[i]? = some (some d)
      · obtain ⟨d, e⟩ := hs
        obtain ⟨v, _, r⟩ := R.val i d e
        rw [hD i hv] at r
        exact r.1
      · exact R.non i fun d e => hs ⟨d, e⟩
    · refine R.non i fun d e => hi d ?_
      rw [wip_get, if_neg fun z => hv z.1]
      exact e
theorem rs_reg {X : Cx} {sts : List Stmt} {m : S} (vs : List Nat) (G' : Nat → Md) (hG : ∀ i, i ∉ vs → C.G i = G' i) (hD : ∀ i ∈ vs, G' i = .dat) (h : PSs X sts (tS { C with G := G' } m)) : PSs X sts (tS C (regS vs m)) := PSs.mono h fun D σ H ⟨ε, F, P, R, h⟩ => by
  unfold regS at h
  by_cases he : (vs.all fun i => emptyAt ε i) = true
  · rw [if_pos he] at h
    refine ⟨ε, F, P, reg_in (C := C) (G' := G') hG R he, ?_⟩
    cases em : m ε with
    | bad => rw [em] at h; exact h.elim
    | exn c e =>
      rw [em] at h
      exact fun σ' H' F' R' y => h σ' H' F' (reg_out (C := C) (G' := G') hG hD R') y
    | ok f e =>
      rw [em] at h
      cases f with
      | nx => exact fun σ' H' F' R' y p => h σ' H' F' (reg_out (C := C) (G' := G') hG hD R') y p
      | bk => exact fun σ' H' F' R' y p => h σ' H' F' (reg_out (C := C) (G' := G') hG hD R') y p
      | ct => exact fun σ' H' F' R' y p => h σ' H' F' (reg_out (C := C) (G' := G') hG hD R') y p
      | rt d => exact fun v σ' H' F' fp R' y p n rr => h v σ' H' F' fp (reg_out (C := C) (G' := G') hG hD R') y p n rr
  · rw [if_neg he] at h
    exact h.elim
end
def regB (gs gs' : List Md) (vs : List Nat) : Bool := decide (gs.length = gs'.length) && (List.range gs.length).all fun i => decide (i ∈ vs) || decide (gs[i]? = gs'[i]?)
theorem gm_reg {gs gs' : List Md} {vs : List Nat} (h : regB gs gs' vs = true) : ∀ i, i ∉ vs → gm gs i = gm gs' i := fun i hi => by
  unfold regB at h
  simp only [Bool.and_eq_true, decide_eq_true_eq, List.all_eq_true, Bool.or_eq_true, List.mem_range] at h
  unfold gm
  by_cases hl : i < gs.length
  · rw [(h.2 i hl).resolve_left hi]
  · rw [List.getElem?_eq_none (by omega), List.getElem?_eq_none (by omega)]
/-! ### a, b = x, y -/
section
variable {C : Cc} {X : Cx}
theorem rs_par {st : Stmt} {i j : Nat} {ma mb : M D} (hi : C.G i = .dat) (hj : C.G j = .dat) (hpi : C.pin i = false) (hpj : C.pin j = false) (h : PS X st (tPar i j (tAs C [.d ma, .d mb]))) : PS X st (tS C (asg (tupE [ma, mb]) (tgT [tgN i, tgN j]))) := PS.mono h fun D σ H ⟨ε, F, P, R, h⟩ => by
  have h' : OkS C D P σ H F (bd (seqE [ma, mb]) (fun xs => stT (tgT [tgN i, tgN j] (.tup xs)) .nx) ε) := by
    have e : asg (tupE [ma, mb]) (tgT [tgN i, tgN j]) ε = bd (seqE [ma, mb]) (fun xs => stT (tgT [tgN i, tgN j] (.tup xs)) .nx) ε := by
      unfold asg tupE bd
      cases seqE [ma, mb] ε <;> rfl
    rw [← e]; exact h
  refine tAs.imp _ (seq_run OkS.stp R h') fun vs H1 ⟨ds, ε1, F1, R1, y1, l, n, h1⟩ => ?_
  match vs, ds, n, l with
  | [v, w], [d1, d2], _, l =>
    obtain ⟨v', r, e1, r1, l2⟩ := l
    cases e1
    obtain ⟨w', r', e2, r2, l3⟩ := l2
    cases e2
    refine ⟨v, w, rfl, ?_⟩
    by_cases hil : i < ε1.length
    · by_cases hjl : j < ε1.length
      · have e : stT (tgT [tgN i, tgN j] (.tup [d1, d2])) Fl.nx ε1 = .ok .nx ((ε1.set i (some d1)).set j (some d2)) := by
          simp [stT, tgT, tgs, tgN, hil, hjl]
        rw [e] at h1
        have R2 := RepE.put R1.nilP (i := i) (d := d1) (v := v) (fp := []) (fun a ha => by cases ha) (by rw [hi]; exact ⟨rfl, r1.nilP⟩) hil
        have g : ∀ a, Own (Fset F1 i []) P a → Own F1 P a := fun a z => by
          rcases z with z | ⟨k, z⟩
          · exact .inl z
          · unfold Fset at z
            split at z
            · cases z
            · exact .inr ⟨k, z⟩
        have R3 := RepE.put R2.nilP (i := j) (d := d2) (v := w) (fp := []) (fun a ha => by cases ha) (by rw [hj]; exact ⟨rfl, (r2.weak g).nilP⟩) (by simpa using hjl)
        exact h1 _ H1 _ R3 ((Fr.put Fr.refl fun a ha => by cases ha).trans (Fr.put Fr.refl fun a ha => by cases ha)) ((pin_set hpi).trans (pin_set hpj))
      · have e : stT (tgT [tgN i, tgN j] (.tup [d1, d2])) Fl.nx ε1 = .bad := by simp [stT, tgT, tgs, tgN, hil, hjl]
        rw [e] at h1
        exact h1.elim
    · have e : stT (tgT [tgN i, tgN j] (.tup [d1, d2])) Fl.nx ε1 = .bad := by simp [stT, tgT, tgs, tgN, hil]
      rw [e] at h1
      exact h1.elim
  | [], _, n, _ => cases n
  | [_], _, n, _ => cases n
  | _ :: _ :: _ :: _, _, n, _ => cases n
  | [_, _], [], _, l => cases l
  | [_, _], [_], _, l => obtain ⟨_, _, e, _, l⟩ := l; cases e; cases l
  | [_, _], _ :: _ :: _ :: _, _, l => obtain ⟨_, _, e, _, l⟩ := l; cases e; obtain ⟨_, _, e, _, l⟩ := l; cases e; obtain ⟨_, _, e, _, l⟩ := l; cases e
end
end Lk

end
section
set_option maxRecDepth 100000
set_option maxHeartbeats 4000000
/-! Lk36: max of a list, list(range), is of truth values, insert. -/
namespace Lk
open PySem PySem.Spec PyProof.Rows L2 Cr
section
variable {X : Cx} {C : Cc} {K : PySem.W.Frag}
theorem cs_maxL : CallS K (rMax K) bMaxL := fun O H vs ds d Q dm r e q => by
  unfold bMaxL at e
  split at e
  · rename_i xs
    split at e
    · rename_i n ns h
      cases e
      obtain ⟨v, rfl, a, us, rfl, t, l⟩ := wl1 r
      rw [intsD_rep h l] at t
      refine ⟨a, n :: ns, rfl, t, by simp, fun m hm hb => ?_⟩
      have h1 := maxL_le ns n
      have e1 : m = maxL n ns := by
        have h2 : maxL n ns ≤ m := by
          rcases maxL_mem ns n with z | z
          · rw [z]; exact hb n List.mem_cons_self
          · exact hb _ (List.mem_cons_of_mem _ z)
        have h3 : m ≤ maxL n ns := by
          rcases List.mem_cons.mp hm with z | z
          · rw [z]; exact h1.1
          · exact h1.2 m z
        omega
      rw [e1]
      exact q _ _ (fun _ _ h => h) rfl
    · cases e
  · cases e
theorem rf_listR1 {a : Expr} {o : Opd} {p p2 pos pos2 : Pos} (hc : X.calm = true) (hg : Gl X "list") (hm : X.mg "list" = none) (hg2 : Gl X "range") (hm2 : X.mg "range" = none) (ha : PE X a (tO C o)) (na : starEach [a] X.env = (false, eval a X.env) :: starEach [] X.env := by rfl)
    (nb : starEach [.Call (.Name "range" p2) [a] [] pos2] X.env = (false, eval (.Call (.Name "range" p2) [a] [] pos2) X.env) :: starEach [] X.env := by rfl) :
    PE X (.Call (.Name "list" p) [.Call (.Name "range" p2) [a] [] pos2] [] pos) (tF C .ol (callB bListR1 [o])) := by
  refine PE.mono (pe_listRg hc hg hm (prg_1 hg2 hm2 ha na) nb) fun σ H Q h => ?_
  have h' : tAs C [o] σ H (fun vs H1 => ∃ n, vs = [.int n] ∧ RgOk 0 n ∧ ∀ q, H1 q = none → Q (.ref q) (upd H1 q (.lst (rgV 0 n)))) := by
    obtain ⟨ε, F, P, R, h⟩ := h
    refine tAs.imp _ (gopds OkF.stp R h) fun vs H1 ⟨ds, ε1, F1, R1, y1, A, h1⟩ => ?_
    obtain ⟨d, e, q⟩ := OkF.opt h1
    have w := A.wl R1
    unfold bListR1 at e
    split at e
    · rename_i n
      split at e
      · rename_i hn
        cases e
        cases w with
        | cons r1 w =>
          cases w
          refine ⟨n, by rw [show _ = V.int n from r1], ⟨by omega, by omega, by omega, by omega, by omega⟩, fun z hz => ?_⟩
          have e : rgV 0 n = ((List.range n.toNat).map fun (i : Nat) => (0 + (i : Int))).map V.int := by unfold rgV; simp
          have e2 : rangeD 0 n.toNat = ((List.range n.toNat).map fun (i : Nat) => (0 + (i : Int))).map D.int := by unfold rangeD; simp
          rw [e2] at q
          rw [e]
          exact finF R1 q rfl (ints_back _) hz
      · cases e
    · cases e
  exact tO.imp h' fun x H1 ⟨n, e, ok, q⟩ => ⟨n, by injection e, ok, q⟩
theorem op_isB : OpR X (compareOp .Is) (fun x y H Q => ∃ a b, x = .bl a ∧ y = .bl b ∧ Q (.bl (decide (a = b))) H) := by
  intro pins s σ H x y v u Q I rx ry h
  obtain ⟨a, b, rfl, rfl, q⟩ := h
  cases rx
  cases ry
  cases a <;> cases b <;> exact wpAny_pure (fin_bl I q rfl)
theorem op_noB : OpR X (compareOp .IsNot) (fun x y H Q => ∃ a b, x = .bl a ∧ y = .bl b ∧ Q (.bl (!decide (a = b))) H) := by
  intro pins s σ H x y v u Q I rx ry h
  obtain ⟨a, b, rfl, rfl, q⟩ := h
  cases rx
  cases ry
  cases a <;> cases b <;> exact wpAny_pure (fin_bl I q rfl)
theorem os_isB : OpS K (fun x y H Q => ∃ a b, x = .bl a ∧ y = .bl b ∧ Q (.bl (decide (a = b))) H) gIsB := fun O H x y d1 d2 d Q dm r1 r2 e q => by
  unfold gIsB at e
  split at e
  · rename_i a b
    cases e
    exact ⟨a, b, r1, r2, q _ _ (fun _ _ h => h) rfl⟩
  · cases e
theorem os_noB : OpS K (fun x y H Q => ∃ a b, x = .bl a ∧ y = .bl b ∧ Q (.bl (!decide (a = b))) H) gNoB := fun O H x y d1 d2 d Q dm r1 r2 e q => by
  unfold gNoB at e
  split at e
  · rename_i a b
    cases e
    exact ⟨a, b, r1, r2, q _ _ (fun _ _ h => h) rfl⟩
  · cases e
def rInsert : V → List V → Hp → VK → Prop := fun x vs H Q => ∃ (l : Addr) (xs : List V) (i : Int) (y : V), x = .ref l ∧ vs = [.int i, y] ∧ H l = some (.lst xs) ∧ xs.length < sizeLine ∧ 0 ≤ i ∧ i < 2 ^ 63 ∧
    Q .non (upd H l (.lst (xs.take i.toNat ++ [y] ++ xs.drop i.toNat)))
theorem mt_ins : MtR X "list.insert" rInsert := mt_insert
theorem RepL.cut2 {O : Addr → Prop} {H : Hp} : ∀ {ds : List D} {vs : List V} (k : Nat), RepL K O H ds vs → RepL K O H (ds.take k) (vs.take k) ∧ RepL K O H (ds.drop k) (vs.drop k)
  | ds, vs, 0, h => ⟨rfl, h⟩
  | [], vs, k + 1, h => by cases h; exact ⟨rfl, rfl⟩
  | d :: ds, vs, k + 1, h => by
    obtain ⟨v, r, rfl, h1, h2⟩ := h
    obtain ⟨a, b⟩ := RepL.cut2 k h2
    exact ⟨⟨v, r.take k, rfl, h1, a⟩, b⟩
/-- x.insert(k, e) -/
theorem rs_ins {st : Stmt} {i : Nat} {mk m : M D} (hG : C.G i = .ol) (h : PS X st (tDrop (tBM C.K "list" rInsert (tVar i) (tCons (tE C mk) (tCons (tE C m) tNil))))) : PS X st (tS C (insS i mk m)) := PS.mono h fun D σ H ⟨ε, F, P, R, h⟩ => by
  unfold insS at h
  obtain ⟨d0, e0, h1⟩ := (OkS.stp.bd h).rd
  have h2 := h1 H F R Fr.refl
  obtain ⟨a, vs, ds, rfl, hs, hF, ha, l, hi⟩ := R.ol hG e0
  refine ⟨.ref a, hs, .inl ⟨rfl, vs, .inl (.inl ha)⟩, ?_⟩
  refine tE.imp (gE_bd OkS.stp R h2) fun kv H1 ⟨kd, ε1, F1, R1, y1, r1, h3⟩ => ?_
  refine tE.imp (gE_bd OkS.stp R1 h3) fun v H2 ⟨y, ε2, F2, R2, y2, r2, h4⟩ => ?_
  obtain ⟨d1, e1, h5⟩ := (OkS.stp.bd h4).rd
  have h6 := h5 H2 F2 R2 Fr.refl
  obtain ⟨a', vs', ds', rfl, hs', hF', ha', l', hi'⟩ := R2.ol hG e1
  have : a' = a := by rw [hs] at hs'; cases hs'; rfl
  subst this
  cases kd with
  | int j =>
    simp only at h6
    by_cases hz : 0 ≤ j ∧ j ≤ 1000000 ∧ ds'.length < LIM
    · rw [if_pos hz] at h6
      simp only [bd, wr, if_pos hi'] at h6
      refine ⟨a', vs', j, v, rfl, by rw [show kv = V.int j from r1], ha', Nat.lt_of_lt_of_le (by rw [l'.length]; exact hz.2.2) (by decide), hz.1, by omega, ?_⟩
      obtain ⟨t1, t2⟩ := RepL.cut2 j.toNat l'
      obtain ⟨R3, y3⟩ := R2.mut (us := vs'.take j.toNat ++ [v] ++ vs'.drop j.toNat) hG hs hF' ((t1.append (RepL.one r2)).append t2) hi' ha'
      exact h6 σ _ F2 R3 y3 Pin.refl
    · rw [if_neg hz] at h6
      exact h6.elim
  | _ => exact h6.elim
/-- len(d), d's keys tuples -/
def rLenH (K : PySem.W.Frag) : List V → Hp → VK → Prop := fun xs H Q => ∃ O ks a us, xs = [.ref a] ∧ H a = some (HdO a us) ∧ RepH K O H ks us ∧ Q (.int ((us.length : Nat) : Int)) H
theorem call_lenH : CallR X (.builtin "len") (rLenH X.K) := by
  intro pins s σ H xs us0 Q I r ⟨O, ks, a, us, ex, hU, rr, q⟩
  subst ex
  obtain ⟨u, rfl, rx⟩ := vals1 r
  obtain rfl : u = .ref a := rx
  obtain ⟨vs, p, _, hs, hz, dd⟩ := dh_of I hU rr
  have hl : (vs.map enc).length = us.length := by rw [List.length_map]; exact (Paired.length p).symm
  refine call_len_dictH hs dd (by rw [hl]; rw [sizeLine_eq] at hz; omega) ?_
  rw [hl]
  exact ⟨.int ((us.length : Nat) : Int), H, I.tok _, ⟨_, rfl⟩, q⟩
theorem cs_lenH : CallS K (rLenH K) bLenH := fun O H vs ds d Q dm r e q => by
  unfold bLenH at e
  split at e
  · rename_i ks
    cases e
    obtain ⟨v, rfl, a, us, rfl, t, l⟩ := wl1 r
    exact ⟨O, ks, a, us, rfl, t, l, by rw [RepH.length l]; exact q _ _ (fun _ _ h => h) rfl⟩
  · cases e
end
end Lk

end
section
set_option maxRecDepth 100000
set_option maxHeartbeats 4000000
/-! Lk37: sorted(set(xs)), xs pairs. -/
namespace Lk
open PySem PySem.Spec PyProof.Rows L2 Cr
section
variable {K : PySem.W.Frag} {O : Addr → Prop} {H : Hp}
theorem sq_pr {p : Int × Int} {b : Addr} (r : Rep K O H (prD p) (.ref b)) : SqT K H b ([p.1, p.2].map V.int) := by
  obtain ⟨b', ws, e, tt, ll⟩ := r
  cases e
  obtain ⟨v1, r1, rfl, e1, l1⟩ := ll
  obtain ⟨v2, r2, rfl, e2, l2⟩ := l1
  cases l2
  have e1 : v1 = .int p.1 := e1
  have e2 : v2 = .int p.2 := e2
  subst e1 e2
  exact tt.sq
theorem ks_of : ∀ {ps : List (Int × Int)} {us : List V}, RepL K O H (ps.map prD) us → ∃ ks : List (Addr × List Int), us = ks.map (fun q => V.ref q.1) ∧ ks.map (·.2) = ps.map (fun p => [p.1, p.2]) ∧ ∀ q ∈ ks, ∃ p, p ∈ ps ∧ q.2 = [p.1, p.2] ∧ Rep K O H (prD p) (.ref q.1)
  | [], _, h => by cases (show _ = [] from h); exact ⟨[], rfl, rfl, fun _ h => by cases h⟩
  | p :: ps, _, h => by
    obtain ⟨v, r, rfl, h1, h2⟩ := h
    obtain ⟨b, ws, rfl, tt, ll⟩ := h1
    obtain ⟨ks, e1, e2, e3⟩ := ks_of h2
    refine ⟨(b, [p.1, p.2]) :: ks, by rw [e1]; rfl, by simp [e2], fun q hq => ?_⟩
    rcases List.mem_cons.mp hq with z | z
    · rw [z]; exact ⟨p, List.mem_cons_self, rfl, ⟨b, ws, rfl, tt, ll⟩⟩
    · obtain ⟨p', m, a⟩ := e3 q z
      exact ⟨p', List.mem_cons_of_mem _ m, a⟩
def prOf (q : Addr × List Int) : Int × Int := (q.2.getD 0 0, q.2.getD 1 0)
theorem rep_prs : ∀ (L : List (Addr × List Int)), (∀ q ∈ L, Rep K O H (prD (prOf q)) (.ref q.1)) → RepL K O H ((L.map prOf).map prD) (L.map fun q => V.ref q.1)
  | [], _ => rfl
  | q :: L, h => ⟨_, _, rfl, h q List.mem_cons_self, rep_prs L fun x hx => h x (List.mem_cons_of_mem _ hx)⟩
/-- strictly rising pairs are told by what they are -/
theorem usortP_eq {ps l : List (Int × Int)} (hm : ∀ z, z ∈ l ↔ z ∈ ps) (hn : l.Nodup) (hp : l.Pairwise PrLe) : l = usortP ps := by
  refine prLe_eq ?_ hp (psort_pw _)
  exact (List.perm_ext_iff_of_nodup hn (usortP_nd ps)).mpr fun z => by rw [hm, usortP_mem]
end
section
variable {X : Cx} {C : Cc} {e : Expr} {p q1 q2 pos : Pos} {o : Opd}
theorem rf_sortsetP (hX : X.K = C.K) (hu : X.A.units + 64 < cLine) (hc : X.calm = true) (hg1 : Gl X "sorted") (hm1 : X.mg "sorted" = none) (hg2 : Gl X "set") (hm2 : X.mg "set" = none) (h : PE X e (tO C o))
    (he : starEach (e :: []) X.env = (false, eval e X.env) :: starEach [] X.env := by rfl)
    (he2 : starEach (.Call (.Name "set" p) [e] [] q1 :: []) X.env = (false, eval (.Call (.Name "set" p) [e] [] q1) X.env) :: starEach [] X.env := by rfl) :
    PE X (.Call (.Name "sorted" q2) [.Call (.Name "set" p) [e] [] q1] [] pos) (tF C .ol (callB bSetP [o])) := by
  refine PE.mono (pe_callB (cr_sortedT hc) hg1 hm1 (by decide +kernel) (pa_cons (pe_callTy (cr_setOfT hc hu) hg2 hm2 (by decide +kernel) (pa_cons h pa_nil he) (by decide) (by decide) he (by rfl)) pa_nil he2) (by decide) (by decide) he2 (by rfl)) fun σ H Q h => ?_
  obtain ⟨ε, F, P, R, h⟩ := h
  have a := gopds OkF.stp R h
  show (tAs C [o]) σ H fun vs H1 => rSetOfT X.K X.prog X.w vs H1 _
  refine tAs.imp _ a fun vs H1 ⟨ds, ε1, F1, R1, y1, A, h1⟩ => ?_
  obtain ⟨d, e1, q⟩ := OkF.opt h1
  have w := A.wl R1
  unfold bSetP at e1
  split at e1
  · rename_i xs
    split at e1
    · rename_i ps hi
      split at e1
      · rename_i h50
        obtain ⟨h50, hB⟩ := h50
        cases e1
        obtain ⟨v, rfl, a, us, rfl, t, l⟩ := wl1 w
        rw [prsD_get hi] at l
        obtain ⟨ks, e1, e2, e3⟩ := ks_of l
        have hkl : ks.length = ps.length := by have := congrArg List.length e2; simpa using this
        rw [e1] at t
        rw [hX]
        refine ⟨a, ks, rfl, t, fun q hq => ?_, by omega, fun p L hp hsub hall => ?_⟩
        · obtain ⟨p, _, e, r⟩ := e3 q hq
          rw [e]; exact sq_pr r
        have ext := same_upd (o := SetTO X.prog X.w p L) hp
        have rep2 : ∀ q ∈ L, ∃ z, z ∈ ps ∧ q.2 = [z.1, z.2] ∧ Rep C.K (Own F1 P) (upd H1 p (SetTO X.prog X.w p L)) (prD z) (.ref q.1) := fun q hq => by
          obtain ⟨z, hz, e, r⟩ := e3 q (hsub q hq)
          exact ⟨z, hz, e, Rep.move (fun a o h _ => ext a o h) (fun _ z => .inl z) _ _ r⟩
        refine ⟨p, L, 2, 64, rfl, upd_same, fun q hq => ?_, by decide, fun q hq => ?_, fun L' p2 hperm hnd hlt hpw hp2 => ?_⟩
        · obtain ⟨z, _, e, r⟩ := rep2 q hq
          rw [e]; exact sq_pr r
        · obtain ⟨z, hz, e, _⟩ := rep2 q hq
          rw [e]
          refine ⟨rfl, fun i hi => ?_⟩
          have hb := hB z hz
          rcases List.mem_cons.mp hi with k | k
          · rw [k]; exact hb.1
          · rw [List.mem_singleton.mp k]; exact hb.2
        have hin : ∀ q ∈ L', q ∈ L := fun q hq => hperm.mem_iff.mp hq
        have hof : ∀ q ∈ L', q.2 = [(prOf q).1, (prOf q).2] ∧ prOf q ∈ ps ∧ Rep C.K (Own F1 P) (upd H1 p (SetTO X.prog X.w p L)) (prD (prOf q)) (.ref q.1) := fun q hq => by
          obtain ⟨z, hz, e, r⟩ := rep2 q (hin q hq)
          have ez : prOf q = z := by unfold prOf; rw [e]; rfl
          rw [ez]; exact ⟨e, hz, r⟩
        have hnd2 : (L'.map prOf).Nodup := by
          have key : ∀ l : List (Addr × List Int), (∀ q ∈ l, q.2 = [(prOf q).1, (prOf q).2]) → (l.map (·.2)).Nodup → (l.map prOf).Nodup := by
            intro l
            induction l with
            | nil => intro _ _; exact List.nodup_nil
            | cons q l ih =>
              intro h hn
              have hn' := List.nodup_cons.mp hn
              refine List.nodup_cons.mpr ⟨fun z => ?_, ih (fun x hx => h x (List.mem_cons_of_mem _ hx)) hn'.2⟩
              obtain ⟨x, hx, ex⟩ := List.mem_map.mp z
              refine hn'.1 (List.mem_map.mpr ⟨x, hx, ?_⟩)
              show x.2 = q.2
              rw [h x (List.mem_cons_of_mem _ hx), h q List.mem_cons_self, ex]
          exact key L' (fun q hq => (hof q hq).1) hnd
        have hpl : (L'.map prOf).Pairwise PrLe := by
          rw [List.pairwise_map]
          have key : ∀ l : List (Addr × List Int), (∀ q ∈ l, q ∈ L') → (l.map prOf).Nodup → l.Pairwise (fun q r => TS.code 64 q.2 ≤ TS.code 64 r.2) → l.Pairwise fun q r => PrLe (prOf q) (prOf r) := by
            intro l
            induction l with
            | nil => intro _ _ _; exact List.Pairwise.nil
            | cons q l ih =>
              intro h hn hp
              have hn' := List.nodup_cons.mp hn
              have hp' := List.pairwise_cons.mp hp
              refine List.pairwise_cons.mpr ⟨fun r hr => ?_, ih (fun x hx => h x (List.mem_cons_of_mem _ hx)) hn'.2 hp'.2⟩
              obtain ⟨f1, f2, _⟩ := hof q (h q List.mem_cons_self)
              obtain ⟨g1, g2, _⟩ := hof r (h r (List.mem_cons_of_mem _ hr))
              have hc := hp'.1 r hr
              rw [f1, g1] at hc
              have hne : prOf q ≠ prOf r := fun z => hn'.1 (List.mem_map.mpr ⟨r, hr, z.symm⟩)
              have b1 := hB _ f2
              have b2 := hB _ g2
              have := pair_lt hc (fun z => hne (by injection z with z1 z2; injection z2 with z2; exact Prod.ext z1 z2)) b1.1 b1.2 b2.1 b2.2
              exact prLt_false.mpr (by omega)
          exact key L' (fun _ h => h) hnd2 hpw
        have heq : L'.map prOf = usortP ps := usortP_eq (fun z => by
          constructor
          · intro hz
            obtain ⟨q, hq, rfl⟩ := List.mem_map.mp hz
            exact (hof q hq).2.1
          · intro hz
            have : [z.1, z.2] ∈ ks.map (·.2) := by rw [e2]; exact List.mem_map.mpr ⟨z, hz, rfl⟩
            obtain ⟨k, hk, ek⟩ := List.mem_map.mp this
            obtain ⟨q, hq, eq⟩ := List.mem_map.mp (hall k hk)
            refine List.mem_map.mpr ⟨q, hperm.mem_iff.mpr hq, ?_⟩
            unfold prOf
            rw [eq, ek]; rfl) hnd2 hpl
        have rl := rep_prs L' fun q hq => (hof q hq).2.2
        rw [heq] at rl
        exact finF (R1.grow ext) (OkF.stp.step _ _ _ _ _ q (Fr.ext ext)) rfl rl hp2
      · cases e1
    · cases e1
  · cases e1
end
theorem hu64 {k : Nat} {A : Around} (r : RoomG k A) : A.units + 64 < cLine := by have := r.un; omega
end Lk

end
section
/-! Ev: how the plain functions are evaluated. -/
namespace Cr
open PySem (Str)
def bnd {α β : Type} (o : Out α) (k : α → Sl → Out β) : Out β := match o with
  | .ok a e => k a e
  | .exn c e => .exn c e
  | .bad => .bad
section
variable {α β : Type}
theorem bd_e (m : M α) (f : α → M β) (e : Sl) : bd m f e = bnd (m e) f := by
  unfold bd bnd
  cases m e <;> rfl
theorem bnd_ok (a : α) (e : Sl) (k : α → Sl → Out β) : bnd (.ok a e) k = k a e := rfl
theorem bnd_exn (c : Nat) (e : Sl) (k : α → Sl → Out β) : bnd (.exn c e) k = .exn c e := rfl
theorem bnd_bad (k : α → Sl → Out β) : bnd (.bad) k = .bad := rfl
theorem bd_ok {m : M α} {f : α → M β} {e e1 : Sl} {a : α} (h : m e = .ok a e1) : bd m f e = f a e1 := by rw [bd_e, h]; rfl
theorem bd_exn {m : M α} {f : α → M β} {e e1 : Sl} {c : Nat} (h : m e = .exn c e1) : bd m f e = .exn c e1 := by rw [bd_e, h]; rfl
theorem pu_e (a : α) (e : Sl) : pu a e = .ok a e := rfl
theorem opt_some (a : α) (e : Sl) : opt (some a) e = .ok a e := rfl
end
theorem seq_nx {a b : S} {e e1 : Sl} (h : a e = .ok .nx e1) : seqS a b e = b e1 := by
  unfold seqS; rw [bd_ok h]
theorem seq_rt {a b : S} {e e1 : Sl} {d : D} (h : a e = .ok (.rt d) e1) : seqS a b e = .ok (.rt d) e1 := by
  unfold seqS; rw [bd_ok h]; rfl
theorem if_t {t : M Bool} {a b : S} {e e1 : Sl} (h : t e = .ok true e1) : ifS t a b e = a e1 := by
  unfold ifS; rw [bd_ok h]; rfl
theorem if_f {t : M Bool} {a b : S} {e e1 : Sl} (h : t e = .ok false e1) : ifS t a b e = b e1 := by
  unfold ifS; rw [bd_ok h]; rfl
theorem asg_ok {m : M D} {i : Nat} {e e1 : Sl} {d : D} (h : m e = .ok d e1) (hi : i < e1.length) : asg m (tgN i) e = .ok .nx (e1.set i (some d)) := by
  unfold asg; rw [bd_ok h]; unfold stT tgN; rw [if_pos hi]
theorem ret_ok {m : M D} {e e1 : Sl} {d : D} (h : m e = .ok d e1) : retS m e = .ok (.rt d) e1 := by
  unfold retS; rw [bd_ok h]; rfl
/-! ### weakest promises -/
def WP {α : Type} (o : Out α) (Q : α → Sl → Prop) : Prop := ∃ a e, o = .ok a e ∧ Q a e
theorem wp_i {α : Type} {o : Out α} {a : α} {e : Sl} {Q : α → Sl → Prop} (h : o = .ok a e) (q : Q a e) : WP o Q := ⟨a, e, h, q⟩
theorem seq_step {a b : S} {e e1 : Sl} {Q : Fl → Sl → Prop} (h : a e = .ok .nx e1) (h2 : WP (b e1) Q) : WP (seqS a b e) Q := by
  obtain ⟨x, e2, p, q⟩ := h2
  exact ⟨x, e2, by rw [seq_nx h]; exact p, q⟩
theorem seq_wp {a b : S} {e : Sl} {Q : Fl → Sl → Prop} (h : WP (a e) fun f e1 => f = .nx ∧ WP (b e1) Q) : WP (seqS a b e) Q := by
  obtain ⟨x, e2, p, rfl, q⟩ := h
  exact seq_step p q
theorem asg_wp {m : M D} {i : Nat} {e : Sl} {Q : Fl → Sl → Prop} (h : WP (m e) fun d e1 => i < e1.length ∧ Q .nx (e1.set i (some d))) : WP (asg m (tgN i) e) Q := by
  obtain ⟨x, e2, p, hi, q⟩ := h
  exact ⟨_, _, asg_ok p hi, q⟩
theorem ret_wp {m : M D} {e : Sl} {Q : Fl → Sl → Prop} (h : WP (m e) fun d e1 => Q (.rt d) e1) : WP (retS m e) Q := by
  obtain ⟨x, e2, p, q⟩ := h
  exact ⟨_, _, ret_ok p, q⟩
theorem if_wp {t : M Bool} {a b : S} {e e1 : Sl} {c : Bool} {Q : Fl → Sl → Prop} (h : t e = .ok c e1) (q : WP ((if c = true then a else b) e1) Q) : WP (ifS t a b e) Q := by
  obtain ⟨x, e2, p, q⟩ := q
  cases c
  · exact ⟨x, e2, by rw [if_f h]; exact p, q⟩
  · exact ⟨x, e2, by rw [if_t h]; exact p, q⟩
theorem seq_if_f {t : M Bool} {a b : S} {e e1 : Sl} {Q : Fl → Sl → Prop} (h : t e = .ok false e1) (q : WP (b e1) Q) : WP (seqS (ifS t a nx) b e) Q := seq_step (if_f h) q
theorem wp_mono {α : Type} {o : Out α} {Q Q' : α → Sl → Prop} (h : WP o Q) (hq : ∀ a e, Q a e → Q' a e) : WP o Q' := by
  obtain ⟨a, e, p, q⟩ := h
  exact ⟨a, e, p, hq _ _ q⟩
theorem fn_wp {own : List Bool} {fall : Bool} {n : Nat} {b : S} {ds : List D} {P : D → List D → Prop} (h : WP (b (ds.map some ++ List.replicate (n - ds.length) none)) fun f e => ∃ d r, f = .rt d ∧ finM own ds e = some r ∧ P d r) : ∃ d r, fnOf own fall n b ds = .ok d r ∧ P d r := by
  obtain ⟨x, e, p, d, r, rfl, q, w⟩ := h
  exact ⟨d, r, by unfold fnOf; simp only [p, q], w⟩
theorem fn_ret {own : List Bool} {fall : Bool} {n : Nat} {b : S} {ds r : List D} {d : D} {e : Sl} (h : b (ds.map some ++ List.replicate (n - ds.length) none) = .ok (.rt d) e) (hf : finM own ds e = some r) : fnOf own fall n b ds = .ok d r := by
  unfold fnOf; simp only [h, hf]
theorem rd_ok' {i : Nat} {e : Sl} {d : D} (h : e[i]? = some (some d)) : rd i e = .ok d e := by unfold rd; rw [h]
/-! ### comprehensions that change nothing -/
theorem lc1 {i : Nat} {it : M (List D)} {c : M Bool} {x : M D} {e : Sl} {ds : List D} (p : D → Bool) (g : D → D) (hi : i < e.length) (hit : it e = .ok ds e) (hl : ds.length ≤ 1000000)
    (ht : ∀ d ∈ ds, c (e.set i (some d)) = .ok (p d) (e.set i (some d)) ∧ (p d = true → x (e.set i (some d)) = .ok (g d) (e.set i (some d)))) :
    lcE [i] it (tgN i) c x e = .ok (.lst ((ds.filter p).map g)) e := by
  have w : ∀ d : Option D, wipeE (e.set i d) [i] = e.set i none := fun d => by simp [wipeE]
  have key : ∀ (ds : List D), (∀ d ∈ ds, c (e.set i (some d)) = .ok (p d) (e.set i (some d)) ∧ (p d = true → x (e.set i (some d)) = .ok (g d) (e.set i (some d)))) → ∀ (acc : List D) (e' : Sl), wipeE e' [i] = e.set i none → e'.length = e.length →
      ∃ e2, compL [i] (tgN i) c x ds acc e' = .ok (acc ++ (ds.filter p).map g) e2 ∧ wipeE e2 [i] = e.set i none ∧ e2.length = e.length := by
    intro ds
    induction ds with
    | nil => intro _ acc e' h1 h2; exact ⟨e', by simp [compL, pu], h1, h2⟩
    | cons d ds ih =>
      intro h acc e' h1 h2
      obtain ⟨hc, hx⟩ := h d List.mem_cons_self
      have ih' := ih fun d' hd => h d' (List.mem_cons_of_mem _ hd)
      unfold compL
      rw [bd_ok (e1 := e.set i none) (a := ()) (by rw [h1]), bd_ok (e1 := e.set i (some d)) (a := ()) (by simp [stT, tgN, hi]), bd_ok hc]
      cases hp : p d with
      | false =>
        obtain ⟨e2, q1, q2, q3⟩ := ih' acc (e.set i (some d)) (w _) (by simp)
        exact ⟨e2, by simp [hp, q1], q2, q3⟩
      | true =>
        obtain ⟨e2, q1, q2, q3⟩ := ih' (acc ++ [g d]) (e.set i (some d)) (w _) (by simp)
        refine ⟨e2, ?_, q2, q3⟩
        rw [if_pos rfl, bd_ok (hx hp), q1]
        simp [hp]
  obtain ⟨e2, q1, q2, q3⟩ := key ds ht [] e (by simp [wipeE]) rfl
  unfold lcE
  rw [bd_ok hit]
  simp only [q1, List.nil_append]
  rw [if_pos hl]
  congr 1
  have : restE e e2 [i] = e2.set i (e[i]?.getD none) := rfl
  rw [this]
  have q2' : e2.set i none = e.set i none := q2
  apply List.ext_getElem?
  intro j
  by_cases ej : j = i
  · subst ej
    rw [List.getElem?_set_self (by omega), List.getElem?_eq_getElem hi]
    rfl
  · have := congrArg (fun l : Sl => l[j]?) q2'
    simp only [List.getElem?_set_ne (Ne.symm ej)] at this
    rw [List.getElem?_set_ne (Ne.symm ej), this]
/-- .. that may change what owns: each turn keeps I and gives an item of Q -/
theorem lcI {i : Nat} {it : M (List D)} {x : M D} {e : Sl} {ds : List D} (I : Sl → Prop) (Q : D → Prop) (hit : it e = .ok ds e) (hl : ds.length ≤ 1000000) (hI : I (wipeE e [i])) (hn : ∀ e', I e' → e'.length = e.length)
    (hi : i < e.length) (ht : ∀ d ∈ ds, ∀ e', I e' → ∃ y e2, x (e'.set i (some d)) = .ok y e2 ∧ Q y ∧ I (wipeE e2 [i])) (hw : ∀ e', I e' → wipeE e' [i] = e') :
    ∃ ys e2, lcE [i] it (tgN i) (pu true) x e = .ok (.lst ys) (e2.set i (e[i]?.getD none)) ∧ I (wipeE e2 [i]) ∧ (∀ y ∈ ys, Q y) ∧ ys.length = ds.length := by
  have key : ∀ (ds : List D), (∀ d ∈ ds, ∀ e', I e' → ∃ y e2, x (e'.set i (some d)) = .ok y e2 ∧ Q y ∧ I (wipeE e2 [i])) → ∀ (acc : List D) (e' : Sl), I (wipeE e' [i]) →
      ∃ ys e2, compL [i] (tgN i) (pu true) x ds acc e' = .ok (acc ++ ys) e2 ∧ I (wipeE e2 [i]) ∧ (∀ y ∈ ys, Q y) ∧ ys.length = ds.length := by
    intro ds
    induction ds with
    | nil => intro _ acc e' h1; exact ⟨[], e', by simp [compL, pu], h1, by simp, rfl⟩
    | cons d ds ih =>
      intro h acc e' h1
      obtain ⟨y, e2, q1, q2, q3⟩ := h d List.mem_cons_self _ h1
      obtain ⟨ys, e3, r1, r2, r3, r4⟩ := ih (fun d' hd => h d' (List.mem_cons_of_mem _ hd)) (acc ++ [y]) e2 q3
      refine ⟨y :: ys, e3, ?_, r2, fun z hz => ?_, by simp [r4]⟩
      · unfold compL
        have hlen : i < (wipeE e' [i]).length := by rw [hn _ h1]; exact hi
        rw [bd_ok (m := fun e => Out.ok () (wipeE e [i])) (e1 := wipeE e' [i]) (a := ()) rfl, bd_ok (e1 := (wipeE e' [i]).set i (some d)) (a := ()) (by simp only [stT, tgN, if_pos hlen]), bd_ok (pu_e true _), if_pos rfl, bd_ok q1, r1]
        simp
      · rcases List.mem_cons.mp hz with e | e
        · rw [e]; exact q2
        · exact r3 z e
  obtain ⟨ys, e2, q1, q2, q3, q4⟩ := key ds ht [] e hI
  refine ⟨ys, e2, ?_, q2, q3, q4⟩
  unfold lcE
  rw [bd_ok hit]
  simp only [q1, List.nil_append]
  rw [if_pos hl]
  rfl
/-! ### for -/
theorem for_inv {it : M (List D)} {i : Nat} {b : S} {e : Sl} {ds : List D} (I : Nat → Sl → Prop) (hit : it e = .ok ds e) (h0 : I 0 e) (hi : ∀ k e', I k e' → i < e'.length)
    (ht : ∀ k d e', ds[k]? = some d → I k e' → ∃ e2, b (e'.set i (some d)) = .ok .nx e2 ∧ I (k + 1) e2) : ∃ e2, forS it (tgN i) b e = .ok .nx e2 ∧ I ds.length e2 := by
  have key : ∀ (n k : Nat) (e' : Sl), k + n = ds.length → I k e' → ∃ e2, loop (tgN i) b (ds.drop k) e' = .ok .nx e2 ∧ I ds.length e2 := by
    intro n
    induction n with
    | zero =>
      intro k e' hk h
      have : k = ds.length := by omega
      subst this
      exact ⟨e', by simp [loop, nx, pu], h⟩
    | succ n ih =>
      intro k e' hk h
      have hlt : k < ds.length := by omega
      rw [List.drop_eq_getElem_cons hlt]
      obtain ⟨e2, q1, q2⟩ := ht k ds[k] e' (List.getElem?_eq_getElem hlt) h
      obtain ⟨e3, r1, r2⟩ := ih (k + 1) e2 (by omega) q2
      refine ⟨e3, ?_, r2⟩
      unfold loop
      rw [bd_ok (e1 := e'.set i (some ds[k])) (a := ()) (by simp [stT, tgN, hi k e' h]), bd_ok q1]
      exact r1
  obtain ⟨e2, q1, q2⟩ := key ds.length 0 e (by omega) h0
  exact ⟨e2, by unfold forS; rw [bd_ok hit]; simpa using q1, q2⟩
end Cr

end
section
/-! Evs: the plain functions' equations, for simp. -/
namespace Cr
open PySem (Str)
section
variable {α β : Type} (e : Sl)
@[simp] theorem s_bd (m : M α) (f : α → M β) : bd m f e = match m e with
  | .ok a e1 => f a e1
  | .exn c e1 => .exn c e1
  | .bad => .bad := (rfl)
@[simp] theorem s_pu (a : α) : pu a e = .ok a e := (rfl)
@[simp] theorem s_os (a : α) : opt (some a) e = .ok a e := (rfl)
@[simp] theorem s_on : opt (none : Option α) e = .bad := (rfl)
@[simp] theorem s_badM : (badM : M α) e = .bad := (rfl)
@[simp] theorem s_raise (c : Nat) : (raise c : M α) e = .exn c e := (rfl)
@[simp] theorem s_rd (i : Nat) : rd i e = match e[i]? with
  | some (some d) => .ok d e
  | _ => .bad := (rfl)
@[simp] theorem s_wr (i : Nat) (d : D) : wr i d e = if i < e.length then .ok () (e.set i (some d)) else .bad := (rfl)
@[simp] theorem s_clr (i : Nat) : clr i e = .ok () (e.set i none) := (rfl)
@[simp] theorem s_stT (o : Sl → Option Sl) (a : α) : stT o a e = match o e with
  | some e' => .ok a e'
  | none => .bad := (rfl)
@[simp] theorem s_cst (d : D) : cst d e = .ok d e := (rfl)
end
@[simp] theorem s_tgN (i : Nat) (d : D) (e : Sl) : tgN i d e = if i < e.length then some (e.set i (some d)) else none := (rfl)
@[simp] theorem s_bdd (g : D → D → Option D) (a b : M D) (e : Sl) : bin g (.d a) (.d b) e = (bd a fun x => bd b fun y => opt (g x y)) e := (rfl)
@[simp] theorem s_bod (g : D → D → Option D) (i : Nat) (b : M D) (e : Sl) : bin g (.o i) (.d b) e = (bd (rd i) fun _ => bd b fun y => bd (rd i) fun x => opt (g x y)) e := (rfl)
@[simp] theorem s_bdo (g : D → D → Option D) (a : M D) (j : Nat) (e : Sl) : bin g (.d a) (.o j) e = (bd a fun x => bd (rd j) fun y => opt (g x y)) e := (rfl)
@[simp] theorem s_boo (g : D → D → Option D) (i j : Nat) (e : Sl) : bin g (.o i) (.o j) e = (bd (rd i) fun x => bd (rd j) fun y => opt (g x y)) e := (rfl)
@[simp] theorem s_ud (g : D → Option D) (a : M D) (e : Sl) : un g (.d a) e = (bd a fun x => opt (g x)) e := (rfl)
@[simp] theorem s_uo (g : D → Option D) (i : Nat) (e : Sl) : un g (.o i) e = (bd (rd i) fun x => opt (g x)) e := (rfl)
@[simp] theorem s_toB (b : Bool) (e : Sl) : toB (.bl b) e = (pu b) e := (rfl)
@[simp] theorem s_tstB (m : M D) (e : Sl) : tstB m e = (bd m toB) e := (rfl)
@[simp] theorem s_trud (a : M D) (e : Sl) : tru (.d a) e = (bd a fun x => opt (truth x)) e := (rfl)
@[simp] theorem s_truo (i : Nat) (e : Sl) : tru (.o i) e = (bd (rd i) fun x => opt (truth x)) e := (rfl)
@[simp] theorem s_andT (a b : M Bool) (e : Sl) : andT a b e = (bd a fun x => if x = true then b else pu false) e := (rfl)
@[simp] theorem s_orT (a b : M Bool) (e : Sl) : orT a b e = (bd a fun x => if x = true then pu true else b) e := (rfl)
@[simp] theorem s_notT (a : M Bool) (e : Sl) : notT a e = (bd a fun x => pu (!x)) e := (rfl)
@[simp] theorem s_andV (a b : M D) (e : Sl) : andV a b e = (bd a fun x => bd (toB x) fun c => if c = true then b else pu (.bl false)) e := (rfl)
@[simp] theorem s_orV (a b : M D) (e : Sl) : orV a b e = (bd a fun x => bd (toB x) fun c => if c = true then pu (.bl true) else b) e := (rfl)
@[simp] theorem s_notV (a : M D) (e : Sl) : notV a e = (bd a fun x => bd (toB x) fun c => pu (.bl (!c))) e := (rfl)
@[simp] theorem s_ifE (t : M Bool) (a b : M D) (e : Sl) : ifE t a b e = (bd t fun x => if x = true then a else b) e := (rfl)
@[simp] theorem s_chain (g g' : D → D → Option D) (a b c : M D) (e : Sl) : chain g g' a b c e = (bd a fun x => bd b fun y => bd (opt (g x y)) fun r => bd (toB r) fun k => if k = true then bd c fun z => opt (g' y z) else pu (.bl false)) e := (rfl)
@[simp] theorem s_seq0 (e : Sl) : seqE [] e = (pu []) e := (rfl)
@[simp] theorem s_seq1 (m : M D) (ms : List (M D)) (e : Sl) : seqE (m :: ms) e = (bd m fun x => bd (seqE ms) fun xs => pu (x :: xs)) e := (rfl)
@[simp] theorem s_tupE (ms : List (M D)) (e : Sl) : tupE ms e = (bd (seqE ms) fun xs => pu (.tup xs)) e := (rfl)
@[simp] theorem s_lstE (ms : List (M D)) (e : Sl) : lstE ms e = (bd (seqE ms) fun xs => pu (.lst xs)) e := (rfl)
@[simp] theorem s_p10 (e : Sl) : ph1 [] e = (pu []) e := (rfl)
@[simp] theorem s_p1d (m : M D) (r : List Opd) (e : Sl) : ph1 (.d m :: r) e = (bd m fun x => bd (ph1 r) fun xs => pu (x :: xs)) e := (rfl)
@[simp] theorem s_p1o (i : Nat) (r : List Opd) (e : Sl) : ph1 (.o i :: r) e = (bd (rd i) fun _ => ph1 r) e := (rfl)
@[simp] theorem s_p20 (xs : List D) (e : Sl) : ph2 [] xs e = (pu []) e := (rfl)
@[simp] theorem s_p2d (m : M D) (r : List Opd) (x : D) (xs : List D) (e : Sl) : ph2 (.d m :: r) (x :: xs) e = (bd (ph2 r xs) fun ys => pu (x :: ys)) e := (rfl)
@[simp] theorem s_p2o (i : Nat) (r : List Opd) (xs : List D) (e : Sl) : ph2 (.o i :: r) xs e = (bd (rd i) fun y => bd (ph2 r xs) fun ys => pu (y :: ys)) e := by cases xs <;> rfl
@[simp] theorem s_opds (as : List Opd) (e : Sl) : opds as e = (bd (ph1 as) fun xs => ph2 as xs) e := (rfl)
@[simp] theorem s_callB (g : List D → Option D) (as : List Opd) (e : Sl) : callB g as e = (bd (opds as) fun xs => opt (g xs)) e := (rfl)
@[simp] theorem s_b0 (xs : List D) (e : Sl) : back [] xs e = (pu ()) e := (rfl)
@[simp] theorem s_bd' (m : M D) (r : List Opd) (x : D) (xs : List D) (e : Sl) : back (.d m :: r) (x :: xs) e = (back r xs) e := (rfl)
@[simp] theorem s_bo (i : Nat) (r : List Opd) (x : D) (xs : List D) (e : Sl) : back (.o i :: r) (x :: xs) e = (bd (wr i x) fun _ => back r xs) e := (rfl)
@[simp] theorem s_sl0 : slots [] = [] := (rfl)
@[simp] theorem s_sld (m : M D) (r : List Opd) : slots (.d m :: r) = slots r := (rfl)
@[simp] theorem s_slo (i : Nat) (r : List Opd) : slots (.o i :: r) = i :: slots r := (rfl)
@[simp] theorem s_callF (f : Fn) (as : List Opd) (e : Sl) : callF f as e = (bd (opds as) fun xs => fun e => match f xs with
  | .ok d ds => bd (back as ds) (fun _ => pu d) e
  | .exn c => if slots as = [] then .exn c e else .bad
  | .bad => .bad) e := (rfl)
@[simp] theorem s_callR (f : Fn) (as : List Opd) (e : Sl) : callR f as e = (bd (opds as) fun xs => fun e => match f xs with
  | .ok d _ => if scal d = true then .ok d e else .bad
  | .exn c => .exn c e
  | .bad => .bad) e := (rfl)
@[simp] theorem s_nx (e : Sl) : nx e = .ok .nx e := (rfl)
@[simp] theorem s_seqS (a b : S) (e : Sl) : seqS a b e = (bd a fun f => match f with
  | .nx => b
  | f => pu f) e := (rfl)
@[simp] theorem s_ifS (t : M Bool) (a b : S) (e : Sl) : ifS t a b e = (bd t fun x => if x = true then a else b) e := (rfl)
@[simp] theorem s_exprS (m : M D) (e : Sl) : exprS m e = (bd m fun _ => nx) e := (rfl)
@[simp] theorem s_retS (m : M D) (e : Sl) : retS m e = (bd m fun d => pu (.rt d)) e := (rfl)
@[simp] theorem s_retO (i : Nat) (e : Sl) : retO i e = (bd (rd i) fun d => bd (clr i) fun _ => pu (.rt d)) e := (rfl)
@[simp] theorem s_asg (m : M D) (t : Tg) (e : Sl) : asg m t e = (bd m fun d => stT (t d) .nx) e := (rfl)
@[simp] theorem s_itE (m : M D) (e : Sl) : itE m e = (bd m fun d => opt (items d)) e := (rfl)
@[simp] theorem s_itR (g : List D → Option (List D)) (as : List Opd) (e : Sl) : itR g as e = (bd (opds as) fun ds => opt (g ds)) e := (rfl)
@[simp] theorem s_itl (xs : List D) : items (.lst xs) = some xs := (rfl)
@[simp] theorem s_itt (xs : List D) : items (.tup xs) = some xs := (rfl)
@[simp] theorem s_appS (i : Nat) (m : M D) (e : Sl) : appS i m e = (bd (rd i) fun _ => bd m fun y => bd (rd i) fun d => match d with
  | .lst xs => if xs.length < LIM then bd (wr i (.lst (xs ++ [y]))) fun _ => nx else badM
  | _ => badM) e := (rfl)
@[simp] theorem s_setS (i : Nat) (k m : M D) (e : Sl) : setS i k m e = (bd m fun y => bd (rd i) fun _ => bd k fun kd => bd (rd i) fun d => match d, kd with
  | .lst xs, .int j => (match Cr.ixN xs.length j with
    | some n => bd (wr i (.lst (xs.set n y))) fun _ => nx
    | none => badM)
  | _, _ => badM) e := (rfl)
/-! ### operators -/
@[simp] theorem s_gEq (i j : Int) : gEq (.int i) (.int j) = some (.bl (i == j)) := (rfl)
@[simp] theorem s_gNe (i j : Int) : gNe (.int i) (.int j) = some (.bl (!(i == j))) := (rfl)
@[simp] theorem s_gLt (i j : Int) : gLt (.int i) (.int j) = some (.bl (decide (i < j))) := (rfl)
@[simp] theorem s_gLe (i j : Int) : gLe (.int i) (.int j) = some (.bl (decide (i ≤ j))) := (rfl)
@[simp] theorem s_gGt (i j : Int) : gGt (.int i) (.int j) = some (.bl (decide (j < i))) := (rfl)
@[simp] theorem s_gGe (i j : Int) : gGe (.int i) (.int j) = some (.bl (decide (j ≤ i))) := (rfl)
@[simp] theorem s_gAdd (i j : Int) : gAdd (.int i) (.int j) = some (.int (i + j)) := (rfl)
@[simp] theorem s_gSub (i j : Int) : gSub (.int i) (.int j) = some (.int (i - j)) := (rfl)
def sm (i : Int) : Prop := -(2 ^ 64) < i ∧ i < 2 ^ 64
instance (i : Int) : Decidable (sm i) := inferInstanceAs (Decidable (_ ∧ _))
theorem sm_of {i : Int} (h : -1000000000000 ≤ i) (h' : i ≤ 1000000000000) : sm i := by unfold sm; omega
@[simp] theorem sm_a : sm 48271 := sm_of (by decide) (by decide)
@[simp] theorem sm_b : sm 69621 := sm_of (by decide) (by decide)
@[simp] theorem s_gMul (i j : Int) : gMul (.int i) (.int j) = if sm i ∨ sm j then some (.int (i * j)) else none := (rfl)
@[simp] theorem s_gFdv (i j : Int) : gFdv (.int i) (.int j) = if 0 < j ∧ j < 1073741824 then some (.int (i / j)) else none := (rfl)
@[simp] theorem s_gMod (i j : Int) : gMod (.int i) (.int j) = if 0 < j then some (.int (i % j)) else none := (rfl)
@[simp] theorem s_gPow (i j : Int) : gPow (.int i) (.int j) = if 0 ≤ j ∧ j ≤ 1000 ∧ i.natAbs < 2 ^ 64 then some (.int (i ^ j.toNat)) else none := (rfl)
@[simp] theorem s_gNeg (i : Int) : gNeg (.int i) = some (.int (-i)) := (rfl)
@[simp] theorem s_ixl (xs : List D) (j : Int) : gIx (.lst xs) (.int j) = atD xs j := (rfl)
@[simp] theorem s_ixt (xs : List D) (j : Int) : gIx (.tup xs) (.int j) = atD xs j := (rfl)
theorem at_nat {α : Type} (xs : List α) (j : Nat) : atD xs (j : Int) = xs[j]? := by
  unfold atD Cr.ixN
  by_cases h : j < xs.length
  · rw [if_pos (by omega), if_pos (by omega)]; simp
  · rw [if_pos (by omega), if_neg (by omega), List.getElem?_eq_none (by omega)]; rfl
@[simp] theorem s_at0 {α : Type} (xs : List α) : atD xs 0 = xs[0]? := at_nat xs 0
@[simp] theorem s_at1 {α : Type} (xs : List α) : atD xs 1 = xs[1]? := at_nat xs 1
@[simp] theorem s_at2 {α : Type} (xs : List α) : atD xs 2 = xs[2]? := at_nat xs 2
@[simp] theorem s_at3 {α : Type} (xs : List α) : atD xs 3 = xs[3]? := at_nat xs 3
@[simp] theorem s_at4 {α : Type} (xs : List α) : atD xs 4 = xs[4]? := at_nat xs 4
theorem at_int {α : Type} (xs : List α) {i : Int} (h : 0 ≤ i) : atD xs i = xs[i.toNat]? := by
  obtain ⟨n, rfl⟩ := Int.eq_ofNat_of_zero_le h
  rw [at_nat]
  rfl
theorem ixN_nat {n j : Nat} (h : j < n) : Cr.ixN n (j : Int) = some j := by
  unfold Cr.ixN
  rw [if_pos (by omega), if_pos (by omega)]; simp
theorem ixN_lit (n j : Nat) : Cr.ixN n (j : Int) = if j < n then some j else none := by
  by_cases h : j < n
  · rw [ixN_nat h, if_pos h]
  · unfold Cr.ixN; rw [if_pos (by omega), if_neg (by omega), if_neg h]
@[simp] theorem s_ixN0 (n : Nat) : Cr.ixN n 0 = if 0 < n then some 0 else none := ixN_lit n 0
@[simp] theorem s_ixN1 (n : Nat) : Cr.ixN n 1 = if 1 < n then some 1 else none := ixN_lit n 1
@[simp] theorem s_ixN2 (n : Nat) : Cr.ixN n 2 = if 2 < n then some 2 else none := ixN_lit n 2
@[simp] theorem s_ixN3 (n : Nat) : Cr.ixN n 3 = if 3 < n then some 3 else none := ixN_lit n 3
@[simp] theorem s_lenl (xs : List D) : bLen [.lst xs] = some (.int xs.length) := (rfl)
@[simp] theorem s_lent (xs : List D) : bLen [.tup xs] = some (.int xs.length) := (rfl)
@[simp] theorem s_abs (i : Int) : bAbs [.int i] = some (.int (if i < 0 then -i else i)) := (rfl)
@[simp] theorem s_int (i : Int) : bInt [.int i] = some (.int i) := (rfl)
@[simp] theorem s_max2 (i j : Int) : bMax2 [.int i, .int j] = some (.int (if j > i then j else i)) := (rfl)
@[simp] theorem s_min2 (i j : Int) : bMin2 [.int i, .int j] = some (.int (if j < i then j else i)) := (rfl)
@[simp] theorem s_listl (xs : List D) : bList [.lst xs] = some (.lst xs) := (rfl)
@[simp] theorem s_listt (xs : List D) : bList [.tup xs] = some (.lst xs) := (rfl)
@[simp] theorem s_tupl (xs : List D) : bTuple [.lst xs] = some (.tup xs) := (rfl)
@[simp] theorem s_tupt (xs : List D) : bTuple [.tup xs] = some (.tup xs) := (rfl)
@[simp] theorem s_rng1 (n : Int) : rng1 [.int n] = if -1000000 ≤ n ∧ n ≤ 1000000 then some (rangeD 0 n.toNat) else none := (rfl)
end Cr

end
section
/-! Evd: equality of data without truth values; loops and comprehensions over ranges. -/
namespace Cr
open PySem (Str)
mutual
/-- no truth value, no dict, no set -/
def nb : D → Bool
  | .non => true
  | .int _ => true
  | .str _ => true
  | .tup xs => nbL xs
  | .lst xs => nbL xs
  | _ => false
def nbL : List D → Bool
  | [] => true
  | x :: xs => nb x && nbL xs
end
theorem eqv_ii (i j : Int) : eqv (.int i) (.int j) = (i == j) := by simp [eqv]
mutual
theorem eqv_iff : ∀ (x y : D), nb x = true → nb y = true → (eqv x y = true ↔ x = y)
  | .non, y, hx, hy => by cases y <;> simp_all [eqv, nb]
  | .int i, y, hx, hy => by cases y <;> simp_all [eqv, nb]
  | .str s, y, hx, hy => by cases y <;> simp_all [eqv, nb]
  | .tup xs, y, hx, hy => by
    cases y with
    | tup ys => simp only [nb] at hx hy; simp [eqv, eqvL_iff xs ys hx hy]
    | _ => simp_all [eqv, nb]
  | .lst xs, y, hx, hy => by
    cases y with
    | lst ys => simp only [nb] at hx hy; simp [eqv, eqvL_iff xs ys hx hy]
    | _ => simp_all [eqv, nb]
  | .bl _, y, hx, hy => by simp [nb] at hx
  | .dct _, y, hx, hy => by simp [nb] at hx
  | .dht _, y, hx, hy => by simp [nb] at hx
  | .own _, y, hx, hy => by simp [nb] at hx
  | .ins _ _, y, hx, hy => by simp [nb] at hx
theorem eqvL_iff : ∀ (xs ys : List D), nbL xs = true → nbL ys = true → (eqvL xs ys = true ↔ xs = ys)
  | [], ys, hx, hy => by cases ys <;> simp [eqvL]
  | x :: xs, ys, hx, hy => by
    cases ys with
    | nil => simp [eqvL]
    | cons y ys =>
      simp only [nbL, Bool.and_eq_true] at hx hy
      simp [eqvL, eqv_iff x y hx.1 hy.1, eqvL_iff xs ys hx.2 hy.2]
end
instance : DecidableEq Str := inferInstance
/-- equality of trees, as a Bool -/
noncomputable def eqD (x y : D) : Bool := @decide (x = y) (Classical.propDecidable _)
theorem eqv_eqD {x y : D} (hx : nb x = true) (hy : nb y = true) : eqv x y = eqD x y := by
  unfold eqD
  have := eqv_iff x y hx hy
  by_cases h : x = y
  · rw [this.mpr h]; simp [h]
  · have : eqv x y = false := by cases e : eqv x y with
      | false => rfl
      | true => exact absurd (this.mp e) h
    rw [this]; simp [h]
theorem nb_ints (L : List Int) : nbL (L.map D.int) = true := by induction L with
  | nil => rfl
  | cons x l ih => simp [nbL, nb, ih]
theorem map_int_inj {X Y : List Int} : X.map D.int = Y.map D.int ↔ X = Y :=
  ⟨fun h => by
    have : (X.map D.int).map (fun d => match d with | .int a => a | _ => 0) = (Y.map D.int).map (fun d => match d with | .int a => a | _ => 0) := by rw [h]
    simpa [Function.comp_def] using this, fun h => by rw [h]⟩
theorem sh_int (n : Nat) (x : Int) : sh n (.int x) = true := by cases n <;> simp [sh]
theorem shL_ints : ∀ (n : Nat) (L : List Int), shL n (L.map D.int) = true
  | _, [] => by simp [shL]
  | n, x :: L => by simp [shL, sh_int, shL_ints n L]
theorem eqv_ints (X Y : List Int) : eqv (.lst (X.map .int)) (.lst (Y.map .int)) = decide (X = Y) := by
  have h := eqv_iff (.lst (X.map .int)) (.lst (Y.map .int)) (by simp [nb, nb_ints]) (by simp [nb, nb_ints])
  simp only [D.lst.injEq, map_int_inj] at h
  rw [Bool.eq_iff_iff, h]; simp
theorem gEq_ints (X Y : List Int) : gEq (.lst (X.map .int)) (.lst (Y.map .int)) = some (.bl (decide (X = Y))) := by
  unfold gEq; rw [if_pos ⟨by simp [sh, DEP, shL_ints], by simp [sh, DEP, shL_ints]⟩, eqv_ints]
theorem gNe_ints (X Y : List Int) : gNe (.lst (X.map .int)) (.lst (Y.map .int)) = some (.bl (!decide (X = Y))) := by
  unfold gNe; rw [if_pos ⟨by simp [sh, DEP, shL_ints], by simp [sh, DEP, shL_ints]⟩, eqv_ints]
theorem gIn_ints (x : Int) (L : List Int) : gIn (.int x) (.lst (L.map D.int)) = some (.bl (decide (x ∈ L))) := by
  simp only [gIn, sh_int, shL_ints, and_self, if_true, List.any_map]
  congr 2
  induction L with
  | nil => simp
  | cons y L ih =>
    simp only [List.any_cons, Function.comp, eqv_ii, List.mem_cons] at ih ⊢
    rw [ih]
    by_cases e : y = x
    · simp [e]
    · have e' : ¬ x = y := fun z => e z.symm
      simp [e, e']
theorem gIn_ff (l : List D) (h : ∀ d ∈ l, d = .bl true) : gIn (.bl false) (.lst l) = some (.bl false) := by
  have h1 : ∀ l : List D, (∀ d ∈ l, d = .bl true) → shL DEP l = true := by intro l; induction l <;> simp_all [shL, sh, DEP]
  have h2 : ∀ l : List D, (∀ d ∈ l, d = .bl true) → l.any (fun y => eqv y (.bl false)) = false := by intro l; induction l <;> simp_all [eqv]
  have h3 : sh DEP (.bl false) = true := by simp [sh, DEP]
  simp only [gIn, h1 l h, h2 l h, h3, and_self, if_true]
theorem intsD_map (l : List Int) : intsD (l.map .int) = some l := by induction l with
  | nil => rfl
  | cons x l ih => simp [intsD, ih]
@[simp] theorem s_sum (l : List Int) : bSum [.lst (l.map .int)] = some (.int l.sum) := by simp [bSum, intsD_map]
/-! ### ranges -/
theorem lcR {i n : Nat} {it : M (List D)} {c : M Bool} {x : M D} {e : Sl} (p : Nat → Bool) (g : Nat → D) (hi : i < e.length) (hit : it e = .ok (rangeD 0 n) e) (hl : n ≤ 1000000)
    (ht : ∀ a, a < n → c (e.set i (some (.int a))) = .ok (p a) (e.set i (some (.int a))) ∧ (p a = true → x (e.set i (some (.int a))) = .ok (g a) (e.set i (some (.int a))))) :
    lcE [i] it (tgN i) c x e = .ok (.lst (((List.range n).filter p).map g)) e := by
  have := lc1 (c := c) (x := x) (fun d => match d with | .int a => p a.toNat | _ => false) (fun d => match d with | .int a => g a.toNat | d => d) hi hit (by simp [rangeD, hl]) (by
    intro d hd
    simp only [rangeD, List.mem_map, List.mem_range] at hd
    obtain ⟨a, ha, rfl⟩ := hd
    simpa using ht a ha)
  rw [this]
  simp [rangeD, List.filter_map, Function.comp_def]
/-- a comprehension over a slot's own list that changes nothing -/
theorem lcO1 {i j : Nat} {c : M Bool} {x : M D} {e : Sl} {ds : List D} (p : D → Bool) (g : D → D) (hj : j < e.length) (hij : i ≠ j) (hd : e[i]? = some (some (.lst ds))) (hl : ds.length < 1000000)
    (ht : ∀ d ∈ ds, c (e.set j (some d)) = .ok (p d) (e.set j (some d)) ∧ (p d = true → x (e.set j (some d)) = .ok (g d) (e.set j (some d)))) :
    lcO i [j] (tgN j) c x e = .ok (.lst ((ds.filter p).map g)) e := by
  have w : ∀ d : Option D, wipeE (e.set j d) [j] = e.set j none := fun d => by simp [wipeE]
  have key : ∀ (n k : Nat) (acc : List D) (e' : Sl), k ≤ ds.length → ds.length < k + n → wipeE e' [j] = e.set j none → e'.length = e.length →
      ∃ e2, compO i [j] (tgN j) c x n k acc e' = .ok (acc ++ ((ds.drop k).filter p).map g) e2 ∧ wipeE e2 [j] = e.set j none ∧ e2.length = e.length := by
    intro n
    induction n with
    | zero => intro k acc e' h h'; omega
    | succ n ih =>
      intro k acc e' h h' h1 h2
      have hr : rd i e' = .ok (.lst ds) e' := by
        have : e'[i]? = e[i]? := by
          have := congrArg (fun l : Sl => l[i]?) h1
          simp only [wipeE, List.foldl, List.getElem?_set_ne (Ne.symm hij)] at this
          exact this
        exact rd_ok' (this.trans hd)
      unfold compO
      rw [bd_ok hr]
      by_cases hk : k < ds.length
      · obtain ⟨hc, hx⟩ := ht ds[k] (List.getElem_mem hk)
        rw [List.drop_eq_getElem_cons hk]
        simp only [List.getElem?_eq_getElem hk]
        rw [bd_ok (e1 := e.set j none) (a := ()) (by rw [h1]), bd_ok (e1 := e.set j (some ds[k])) (a := ()) (by simp [stT, tgN, hj]), bd_ok hc]
        cases hp : p ds[k] with
        | false =>
          obtain ⟨e2, q1, q2, q3⟩ := ih (k + 1) acc (e.set j (some ds[k])) (by omega) (by omega) (w _) (by simp)
          exact ⟨e2, by rw [List.filter_cons_of_neg (by simp [hp])]; simp [q1], q2, q3⟩
        | true =>
          obtain ⟨e2, q1, q2, q3⟩ := ih (k + 1) (acc ++ [g ds[k]]) (e.set j (some ds[k])) (by omega) (by omega) (w _) (by simp)
          refine ⟨e2, ?_, q2, q3⟩
          rw [if_pos rfl, bd_ok (hx hp), q1, List.filter_cons_of_pos hp]
          simp
      · have : k = ds.length := by omega
        subst this
        simp only [List.getElem?_eq_none (Nat.le_refl _)]
        exact ⟨e', by simp [pu], h1, h2⟩
  obtain ⟨e2, q1, q2, q3⟩ := key 1000000 0 [] e (by omega) (by omega) (by simp [wipeE]) rfl
  unfold lcO
  simp only [q1, List.nil_append, List.drop_zero]
  congr 1
  have : restE e e2 [j] = e2.set j (e[j]?.getD none) := rfl
  rw [this]
  have q2' : e2.set j none = e.set j none := q2
  apply List.ext_getElem?
  intro k
  by_cases ej : k = j
  · subst ej
    rw [List.getElem?_set_self (by omega), List.getElem?_eq_getElem hj]
    rfl
  · have := congrArg (fun l : Sl => l[k]?) q2'
    simp only [List.getElem?_set_ne (Ne.symm ej)] at this
    rw [List.getElem?_set_ne (Ne.symm ej), this]
end Cr

end
section
/-! Evw: loops and comprehensions by invariants. -/
namespace Cr
open PySem (Str)
/-- a for statement -/
theorem for_wp {it : M (List D)} {t : Tg} {b : S} {e e1 : Sl} {ds : List D} {Q : Fl → Sl → Prop} (I : Nat → Sl → Prop) (hit : it e = .ok ds e1) (h0 : I 0 e1)
    (ht : ∀ k d e', ds[k]? = some d → I k e' → ∃ e'', t d e' = some e'' ∧ WP (b e'') fun f e2 => match f with
      | .nx => I (k + 1) e2
      | .ct => I (k + 1) e2
      | .bk => Q .nx e2
      | .rt r => Q (.rt r) e2)
    (hf : ∀ e', I ds.length e' → Q .nx e') : WP (forS it t b e) Q := by
  have key : ∀ (n k : Nat) (e' : Sl), k + n = ds.length → I k e' → WP (loop t b (ds.drop k) e') Q := by
    intro n
    induction n with
    | zero =>
      intro k e' hk h
      have : k = ds.length := by omega
      subst this
      exact ⟨.nx, e', by simp [loop], hf _ h⟩
    | succ n ih =>
      intro k e' hk h
      have hlt : k < ds.length := by omega
      rw [List.drop_eq_getElem_cons hlt]
      obtain ⟨e'', p1, f, e2, p2, p3⟩ := ht k ds[k] e' (List.getElem?_eq_getElem hlt) h
      have hs : stT (t ds[k]) () e' = .ok () e'' := by simp [p1]
      cases f with
      | nx => obtain ⟨a, e3, r1, r2⟩ := ih (k + 1) e2 (by omega) p3; exact ⟨a, e3, by unfold loop; rw [bd_ok hs, bd_ok p2]; exact r1, r2⟩
      | ct => obtain ⟨a, e3, r1, r2⟩ := ih (k + 1) e2 (by omega) p3; exact ⟨a, e3, by unfold loop; rw [bd_ok hs, bd_ok p2]; exact r1, r2⟩
      | bk => exact ⟨.nx, e2, by unfold loop; rw [bd_ok hs, bd_ok p2]; rfl, p3⟩
      | rt r => exact ⟨.rt r, e2, by unfold loop; rw [bd_ok hs, bd_ok p2]; rfl, p3⟩
  obtain ⟨a, e2, q1, q2⟩ := key ds.length 0 e1 (by omega) h0
  exact ⟨a, e2, by unfold forS; rw [bd_ok hit]; simpa using q1, q2⟩
/-- a comprehension -/
theorem lc_wp {vs : List Nat} {it : M (List D)} {t : Tg} {c : M Bool} {x : M D} {e e1 : Sl} {ds : List D} {Q : D → Sl → Prop} (I : Nat → List D → Sl → Prop) (hit : it e = .ok ds e1) (hl : ds.length ≤ 1000000) (h0 : I 0 [] (wipeE e1 vs))
    (ht : ∀ k d acc e', ds[k]? = some d → I k acc e' → ∃ e'', t d e' = some e'' ∧ WP (c e'') fun b e2 => if b = true then WP (x e2) (fun y e3 => I (k + 1) (acc ++ [y]) (wipeE e3 vs)) else I (k + 1) acc (wipeE e2 vs))
    (hf : ∀ ys e2, I ds.length ys (wipeE e2 vs) → Q (.lst ys) (restE e1 e2 vs)) : WP (lcE vs it t c x e) Q := by
  have key : ∀ (n k : Nat) (acc : List D) (e' : Sl), k + n = ds.length → I k acc (wipeE e' vs) → ∃ ys e2, compL vs t c x (ds.drop k) acc e' = .ok ys e2 ∧ I ds.length ys (wipeE e2 vs) := by
    intro n
    induction n with
    | zero =>
      intro k acc e' hk h
      have : k = ds.length := by omega
      subst this
      exact ⟨acc, e', by simp [compL], h⟩
    | succ n ih =>
      intro k acc e' hk h
      have hlt : k < ds.length := by omega
      rw [List.drop_eq_getElem_cons hlt]
      obtain ⟨e'', p1, f, e2, p2, p3⟩ := ht k ds[k] acc _ (List.getElem?_eq_getElem hlt) h
      have hs : stT (t ds[k]) () (wipeE e' vs) = .ok () e'' := by simp [p1]
      have hw : ∀ f : Unit → M (List D), bd (fun e => Out.ok () (wipeE e vs)) f e' = f () (wipeE e' vs) := fun f => rfl
      cases f with
      | false =>
        obtain ⟨ys, e3, r1, r2⟩ := ih (k + 1) acc e2 (by omega) p3
        exact ⟨ys, e3, by unfold compL; rw [hw, bd_ok hs, bd_ok p2]; exact r1, r2⟩
      | true =>
        obtain ⟨y, e3, p4, p5⟩ := p3
        obtain ⟨ys, e4, r1, r2⟩ := ih (k + 1) (acc ++ [y]) e3 (by omega) p5
        exact ⟨ys, e4, by unfold compL; rw [hw, bd_ok hs, bd_ok p2, if_pos rfl, bd_ok p4]; exact r1, r2⟩
  obtain ⟨ys, e2, q1, q2⟩ := key ds.length 0 [] e1 (by omega) h0
  refine ⟨.lst ys, restE e1 e2 vs, ?_, hf ys e2 q2⟩
  unfold lcE
  rw [bd_ok hit]
  rw [List.drop_zero] at q1
  simp only [q1]
  rw [if_pos hl]
theorem wipe_len (e : Sl) : ∀ vs, (wipeE e vs).length = e.length
  | [] => rfl
  | v :: vs => by simp [wipeE, wipe_len e vs]
theorem wipe_get (e : Sl) (j : Nat) : ∀ vs, (wipeE e vs)[j]? = if j ∈ vs ∧ j < e.length then some none else e[j]?
  | [] => by simp [wipeE]
  | v :: vs => by
    unfold wipeE
    rw [List.getElem?_set]
    by_cases h : v = j
    · subst h
      rw [if_pos rfl]
      by_cases h2 : v < e.length
      · simp [wipe_len, h2]
      · rw [if_neg (by simp [wipe_len, h2]), if_neg (by simp [h2])]
        exact (List.getElem?_eq_none (by omega)).symm
    · rw [if_neg h, wipe_get e j vs]
      have : ¬ j = v := fun z => h z.symm
      simp [this]
theorem rest_get (e0 e : Sl) (h : e0.length = e.length) (j : Nat) : ∀ vs, (restE e0 e vs)[j]? = if j ∈ vs then e0[j]? else e[j]?
  | [] => by simp [restE]
  | v :: vs => by
    have hl : (restE e0 e vs).length = e.length := by
      clear h
      induction vs with
      | nil => rfl
      | cons v vs ih => simp [restE, ih]
    unfold restE
    rw [List.getElem?_set]
    by_cases h' : v = j
    · subst h'
      rw [if_pos rfl]
      by_cases h2 : v < e.length
      · rw [if_pos (by omega), if_pos List.mem_cons_self, List.getElem?_eq_getElem (by omega)]; rfl
      · rw [if_neg (by omega), if_pos List.mem_cons_self]
        exact (List.getElem?_eq_none (by omega)).symm
    · rw [if_neg h', rest_get e0 e h j vs]
      have : ¬ j = v := fun z => h' z.symm
      simp [this]
theorem rest_same {e e2 : Sl} {vs : List Nat} (h : wipeE e2 vs = wipeE e vs) : restE e e2 vs = e := by
  have hl : e2.length = e.length := by rw [← wipe_len e2 vs, h, wipe_len]
  apply List.ext_getElem?
  intro j
  rw [rest_get e e2 hl.symm]
  have := congrArg (fun l : Sl => l[j]?) h
  simp only [wipe_get] at this
  by_cases hj : j ∈ vs
  · rw [if_pos hj]
  · rw [if_neg hj]; simpa [hj] using this
theorem wipe_rest {e0 e2 : Sl} (hl : e0.length = e2.length) {vs : List Nat} (h : wipeE e0 vs = e0) : restE e0 e2 vs = wipeE e2 vs := by
  apply List.ext_getElem?
  intro j
  rw [rest_get _ _ hl, wipe_get]
  by_cases hj : j ∈ vs
  · rw [if_pos hj]
    by_cases hlt : j < e2.length
    · rw [if_pos ⟨hj, hlt⟩]
      have := congrArg (fun l : Sl => l[j]?) h
      simp only [wipe_get] at this
      rw [if_pos ⟨hj, by omega⟩] at this
      exact this.symm
    · rw [if_neg (by simp [hlt]), List.getElem?_eq_none (by omega), List.getElem?_eq_none (by omega)]
  · simp [hj]
theorem wipe_set (e : Sl) (i : Nat) (d : Option D) : wipeE (e.set i d) [i] = e.set i none := by simp [wipeE]
theorem wipe_1 (e : Sl) (i : Nat) : wipeE e [i] = e.set i none := rfl
/-- one that changes nothing, any target -/
theorem lcP {vs : List Nat} {it : M (List D)} {t : Tg} {c : M Bool} {x : M D} {e : Sl} {ds : List D} (p : D → Bool) (g : D → D) (hit : it e = .ok ds e) (hl : ds.length ≤ 1000000)
    (ht : ∀ d ∈ ds, ∃ e'', t d (wipeE e vs) = some e'' ∧ wipeE e'' vs = wipeE e vs ∧ c e'' = .ok (p d) e'' ∧ (p d = true → x e'' = .ok (g d) e'')) :
    lcE vs it t c x e = .ok (.lst ((ds.filter p).map g)) e := by
  have := lc_wp (c := c) (x := x) (t := t) (vs := vs) (Q := fun y e2 => y = .lst ((ds.filter p).map g) ∧ e2 = e) (fun k acc e' => e' = wipeE e vs ∧ acc = ((ds.take k).filter p).map g) hit hl ⟨rfl, by simp⟩ (by
    intro k d acc e' hk he
    obtain ⟨rfl, rfl⟩ := he
    obtain ⟨e'', q1, q2, q3, q4⟩ := ht d (List.mem_of_getElem? hk)
    have hlt : k < ds.length := by
      have := List.getElem?_eq_some_iff.mp hk
      exact this.1
    have hd : ds.take (k + 1) = ds.take k ++ [d] := by rw [List.take_succ, hk]; rfl
    refine ⟨e'', q1, wp_i q3 ?_⟩
    cases hp : p d with
    | false => rw [if_neg (by decide), hd]; simp [q2, hp]
    | true => rw [if_pos rfl]; exact wp_i (q4 hp) ⟨q2, by rw [hd]; simp [hp]⟩) (by
    intro ys e2 he
    obtain ⟨h1, rfl⟩ := he
    exact ⟨by simp, rest_same h1⟩)
  obtain ⟨y, e2, h, rfl, rfl⟩ := this
  exact h
end Cr

end
section
/-! Letters: sets of letters as numbers; no program in sight. -/
namespace G
open Cr
def pw (a : Nat) : Int := 2 ^ a
def memI (n : Nat) (b : Int) : List Int := ((List.range n).filter fun a => b / pw a % 2 == 1).map fun (a : Nat) => (a : Int)
def inI (L : List Int) (a : Nat) : Bool := decide ((a : Int) ∈ L)
/-- a set by its letters, of five -/
def bitsP (p : Nat → Bool) : Int := (((List.range 5).filter p).map pw).sum
def bitsI (L : List Int) : Int := bitsP (inI L)
theorem lt5 {a : Nat} (h : a < 5) : a = 0 ∨ a = 1 ∨ a = 2 ∨ a = 3 ∨ a = 4 := by omega
theorem memI_map (n : Nat) (b : Int) : ((List.range n).filter fun a => b / pw a % 2 == 1).map (fun (a : Nat) => D.int (a : Int)) = (memI n b).map .int := by
  simp [memI, Function.comp_def]
theorem memI_len (n : Nat) (b : Int) : (memI n b).length ≤ n := by simp only [memI, List.length_map]; exact Nat.le_trans (List.length_filter_le _ _) (by simp)
theorem mem_memI {n : Nat} {b z : Int} : z ∈ memI n b ↔ ∃ a : Nat, a < n ∧ z = a ∧ b / pw a % 2 = 1 := by
  simp only [memI, List.mem_map, List.mem_filter, List.mem_range, beq_iff_eq]
  exact ⟨fun ⟨a, ⟨h1, h2⟩, h3⟩ => ⟨a, h1, h3.symm, h2⟩, fun ⟨a, h1, h2, h3⟩ => ⟨a, ⟨h1, h3⟩, h2.symm⟩⟩
theorem memI_pw (n : Nat) (b : Int) : (memI n b).Pairwise (· < ·) := by
  unfold memI
  exact List.Pairwise.map _ (fun a c h => by omega) (List.pairwise_lt_range.filter _)
theorem bitsP_5 (p : Nat → Bool) : bitsP p = (if p 0 then 1 else 0) + (if p 1 then 2 else 0) + (if p 2 then 4 else 0) + (if p 3 then 8 else 0) + (if p 4 then 16 else 0) := by
  have hr : List.range 5 = [0, 1, 2, 3, 4] := rfl
  unfold bitsP
  rw [hr]
  cases h0 : p 0 <;> cases h1 : p 1 <;> cases h2 : p 2 <;> cases h3 : p 3 <;> cases h4 : p 4 <;> simp [List.filter, h0, h1, h2, h3, h4, pw]
theorem bitsP_has (p : Nat → Bool) {a : Nat} (h : a < 5) : bitsP p / pw a % 2 = 1 ↔ p a = true := by
  rw [bitsP_5]
  rcases lt5 h with rfl | rfl | rfl | rfl | rfl <;> cases h0 : p 0 <;> cases h1 : p 1 <;> cases h2 : p 2 <;> cases h3 : p 3 <;> cases h4 : p 4 <;> simp [pw]
theorem memI_bitsI {n : Nat} {L : List Int} (hn : n ≤ 5) (h : ∀ a ∈ L, 0 ≤ a ∧ a < n) : memI n (bitsI L) = usort L := by
  refine pw_lt_eq (fun z => ?_) (memI_pw _ _) (usort_pw _)
  rw [usort_mem, mem_memI]
  constructor
  · rintro ⟨a, h1, rfl, h3⟩
    rw [bitsI, bitsP_has _ (by omega)] at h3
    simpa [inI] using h3
  · intro hz
    obtain ⟨z0, z1⟩ := h z hz
    obtain ⟨a, rfl⟩ := Int.eq_ofNat_of_zero_le z0
    refine ⟨a, by omega, rfl, ?_⟩
    rw [bitsI, bitsP_has _ (by omega)]
    simpa [inI] using hz
/-- the sum over the first letters -/
def bitsK (p : Nat → Bool) (k : Nat) : Int := (((List.range k).filter p).map pw).sum
theorem bitsK_s (p : Nat → Bool) (k : Nat) : bitsK p (k + 1) = if p k = true then bitsK p k + pw k else bitsK p k := by
  unfold bitsK
  rw [List.range_succ, List.filter_append]
  cases h : p k <;> simp [h]
theorem bitsK_5 {n : Nat} {p : Nat → Bool} (hn : n ≤ 5) (h : ∀ a, n ≤ a → p a = false) : bitsK p n = bitsP p := by
  have : ∀ k, n ≤ k → bitsK p k = bitsK p n := by
    intro k
    induction k with
    | zero => intro h; rw [show n = 0 by omega]
    | succ k ih =>
      intro hk
      by_cases e : n = k + 1
      · rw [e]
      · rw [bitsK_s, h k (by omega)]; exact ih (by omega)
  exact (this 5 hn).symm
theorem fact1 : ∀ n : Nat, n < 6 → ∀ b : Nat, b < 2 ^ n → bitsI (memI n b) = (b : Int) := by decide +kernel
def pow5 (a : Nat) (h : a < 5) : atD [D.int 1, .int 2, .int 4, .int 8, .int 16] (a : Int) = some (.int (pw a)) := by
  rcases lt5 h with rfl | rfl | rfl | rfl | rfl <;> rfl
def pow6 : ∀ n : Nat, n < 6 → atD [D.int 1, .int 2, .int 4, .int 8, .int 16, .int 32] (n : Int) = some (.int (2 ^ n)) := by
  intro n h
  have : n = 0 ∨ n = 1 ∨ n = 2 ∨ n = 3 ∨ n = 4 ∨ n = 5 := by omega
  rcases this with rfl | rfl | rfl | rfl | rfl | rfl <;> rfl
theorem pwb : ∀ a : Nat, a < 5 → (0 : Int) < pw a ∧ pw a < 1073741824 := by decide
theorem pw6b : ∀ n : Nat, n < 6 → (2 : Int) ^ n < 1073741824 := by decide
end G

end
section
/-! Evp: loops that look for a fault; defs that answer a truth value. -/
namespace Cr
open PySem (Str)
@[simp] theorem s_tryC (i : Nat) (b : S) (g : Nat → D) (e : Sl) : tryC i b g e = (match b e with
  | .ok f e1 => .ok f e1
  | .exn c e1 => if c < 8 ∧ i < e1.length ∧ e1.length = e.length then .ok (.rt (g c)) e1 else .bad
  | .bad => .bad) := (rfl)
@[simp] theorem s_sl1n (e : Sl) : sl1 none e = .ok none e := (rfl)
@[simp] theorem s_sl1s (m : M D) (e : Sl) : sl1 (some m) e = (bd m fun d => match d with
  | .int i => pu (some i)
  | _ => badM) e := (rfl)
@[simp] theorem s_slEd (m : M D) (lo hi : Option (M D)) (e : Sl) : slE (.d m) lo hi e = (bd m fun x => bd (sl1 lo) fun l => bd (sl1 hi) fun h => opt (gSl x l h)) e := (rfl)
@[simp] theorem s_slEo (i : Nat) (lo hi : Option (M D)) (e : Sl) : slE (.o i) lo hi e = (bd (rd i) fun _ => bd (sl1 lo) fun l => bd (sl1 hi) fun h => bd (rd i) fun x => opt (gSl x l h)) e := (rfl)
@[simp] theorem s_gSlt (xs : List D) (lo hi : Option Int) : gSl (.tup xs) lo hi = some (.tup (cutD xs lo hi)) := (rfl)
@[simp] theorem s_gSll (xs : List D) (lo hi : Option Int) : gSl (.lst xs) lo hi = some (.lst (cutD xs lo hi)) := (rfl)
@[simp] theorem gi_int_non  : gIsi .int .non = some (.bl false) := (rfl)
@[simp] theorem gi_int_bl (b : Bool) : gIsi .int (.bl b) = some (.bl true) := (rfl)
@[simp] theorem gi_int_int (i : Int) : gIsi .int (.int i) = some (.bl true) := (rfl)
@[simp] theorem gi_int_str (s : Str) : gIsi .int (.str s) = some (.bl false) := (rfl)
@[simp] theorem gi_int_tup (xs : List D) : gIsi .int (.tup xs) = some (.bl false) := (rfl)
@[simp] theorem gi_int_lst (xs : List D) : gIsi .int (.lst xs) = some (.bl false) := (rfl)
@[simp] theorem gi_bool_non  : gIsi .bool .non = some (.bl false) := (rfl)
@[simp] theorem gi_bool_bl (b : Bool) : gIsi .bool (.bl b) = some (.bl true) := (rfl)
@[simp] theorem gi_bool_int (i : Int) : gIsi .bool (.int i) = some (.bl false) := (rfl)
@[simp] theorem gi_bool_str (s : Str) : gIsi .bool (.str s) = some (.bl false) := (rfl)
@[simp] theorem gi_bool_tup (xs : List D) : gIsi .bool (.tup xs) = some (.bl false) := (rfl)
@[simp] theorem gi_bool_lst (xs : List D) : gIsi .bool (.lst xs) = some (.bl false) := (rfl)
@[simp] theorem gi_tuple_non  : gIsi .tuple .non = some (.bl false) := (rfl)
@[simp] theorem gi_tuple_bl (b : Bool) : gIsi .tuple (.bl b) = some (.bl false) := (rfl)
@[simp] theorem gi_tuple_int (i : Int) : gIsi .tuple (.int i) = some (.bl false) := (rfl)
@[simp] theorem gi_tuple_str (s : Str) : gIsi .tuple (.str s) = some (.bl false) := (rfl)
@[simp] theorem gi_tuple_tup (xs : List D) : gIsi .tuple (.tup xs) = some (.bl true) := (rfl)
@[simp] theorem gi_tuple_lst (xs : List D) : gIsi .tuple (.lst xs) = some (.bl false) := (rfl)
@[simp] theorem gi_list_non  : gIsi .list .non = some (.bl false) := (rfl)
@[simp] theorem gi_list_bl (b : Bool) : gIsi .list (.bl b) = some (.bl false) := (rfl)
@[simp] theorem gi_list_int (i : Int) : gIsi .list (.int i) = some (.bl false) := (rfl)
@[simp] theorem gi_list_str (s : Str) : gIsi .list (.str s) = some (.bl false) := (rfl)
@[simp] theorem gi_list_tup (xs : List D) : gIsi .list (.tup xs) = some (.bl false) := (rfl)
@[simp] theorem gi_list_lst (xs : List D) : gIsi .list (.lst xs) = some (.bl true) := (rfl)
@[simp] theorem gi_str_non  : gIsi .str .non = some (.bl false) := (rfl)
@[simp] theorem gi_str_bl (b : Bool) : gIsi .str (.bl b) = some (.bl false) := (rfl)
@[simp] theorem gi_str_int (i : Int) : gIsi .str (.int i) = some (.bl false) := (rfl)
@[simp] theorem gi_str_str (s : Str) : gIsi .str (.str s) = some (.bl true) := (rfl)
@[simp] theorem gi_str_tup (xs : List D) : gIsi .str (.tup xs) = some (.bl false) := (rfl)
@[simp] theorem gi_str_lst (xs : List D) : gIsi .str (.lst xs) = some (.bl false) := (rfl)
theorem finM_f : ∀ (own : List Bool) (ds : List D) (e : Sl), own.all (fun b => !b) = true → own.length = ds.length → ds.length ≤ e.length → finM own ds e = some ds
  | [], [], e, _, _, _ => by cases e <;> rfl
  | [], _ :: _, _, _, h, _ => by simp at h
  | _ :: _, [], _, _, h, _ => by simp at h
  | o :: os, d :: ds, [], _, _, h => by simp at h
  | o :: os, d :: ds, s :: e, h, h2, h3 => by
    simp only [List.all_cons, Bool.and_eq_true, Bool.not_eq_true'] at h
    simp only [finM, h.1, Bool.false_eq_true, if_false]
    rw [finM_f os ds e h.2 (by simpa using h2) (by simpa using h3)]
    rfl
/-- a def without own parameters that answers d -/
theorem fn_val {own : List Bool} {fall : Bool} {n : Nat} {b : S} {ds : List D} {d : D} (ho : own.all (fun b => !b) = true) (hl : own.length = ds.length) (hn : ds.length ≤ n) (h : WP (b (ds.map some ++ List.replicate (n - ds.length) none)) fun f e => f = .rt d ∧ e.length = n) : fnOf own fall n b ds = .ok d ds := by
  obtain ⟨f, e, p, rfl, q⟩ := h
  exact fn_ret p (finM_f own ds e ho hl (by omega))
/-- .. that ends without an answer -/
theorem fn_non {own : List Bool} {n : Nat} {b : S} {ds : List D} (ho : own.all (fun b => !b) = true) (hl : own.length = ds.length) (hn : ds.length ≤ n) (h : WP (b (ds.map some ++ List.replicate (n - ds.length) none)) fun f e => f = .nx ∧ e.length = n) : fnOf own true n b ds = .ok .non ds := by
  obtain ⟨f, e, p, rfl, q⟩ := h
  unfold fnOf
  simp only [p, finM_f own ds e ho hl (by omega)]
  rfl
/-- .. that raises -/
theorem fn_exn {own : List Bool} {fall : Bool} {n c : Nat} {b : S} {ds : List D} {e : Sl} (h : b (ds.map some ++ List.replicate (n - ds.length) none) = .exn c e) : fnOf own fall n b ds = .exn c := by
  unfold fnOf
  simp only [h]
/-- a loop that looks for a fault -/
theorem for_all {it : M (List D)} {i : Nat} {b : S} {e : Sl} {ds : List D} {Q : Fl → Sl → Prop} (p : D → Bool) (hit : it e = .ok ds e) (hi : i < e.length)
    (hb : ∀ d ∈ ds, WP (b (e.set i (some d))) fun f e2 => if p d = true then f = .nx ∧ e2 = e.set i (some d) else f = .rt (.bl false) ∧ e2.length = e.length)
    (ht : ds.all p = true → ∀ z, Q .nx (e.set i z)) (hf : ds.all p = false → ∀ e2, e2.length = e.length → Q (.rt (.bl false)) e2) : WP (forS it (tgN i) b e) Q := by
  refine for_wp (fun k e' => (∃ z, e' = e.set i z) ∧ (ds.take k).all p = true) hit ⟨⟨e[i], by simp⟩, by simp⟩ ?_ ?_
  · rintro k d e' hk ⟨⟨z, rfl⟩, ha⟩
    refine ⟨e.set i (some d), by simp [hi], ?_⟩
    obtain ⟨f, e2, q1, q2⟩ := hb d (List.mem_of_getElem? hk)
    refine ⟨f, e2, q1, ?_⟩
    have hd : ds.take (k + 1) = ds.take k ++ [d] := by rw [List.take_succ, hk]; rfl
    cases hp : p d with
    | true =>
      rw [if_pos hp] at q2
      obtain ⟨rfl, rfl⟩ := q2
      exact ⟨⟨_, rfl⟩, by rw [hd]; simp [ha, hp]⟩
    | false =>
      rw [if_neg (by simp [hp])] at q2
      obtain ⟨rfl, q2⟩ := q2
      refine hf ?_ e2 q2
      rw [List.all_eq_false]
      exact ⟨d, List.mem_of_getElem? hk, by simp [hp]⟩
  · rintro e' ⟨⟨z, rfl⟩, ha⟩
    rw [List.take_length] at ha
    exact ht ha z
theorem seq_ret {a b : S} {e : Sl} {Q : Fl → Sl → Prop} (h : WP (a e) fun f e1 => (f = .nx ∧ WP (b e1) Q) ∨ (∃ d, f = .rt d ∧ Q (.rt d) e1)) : WP (seqS a b e) Q := by
  obtain ⟨x, e1, p, q⟩ := h
  rcases q with ⟨rfl, q⟩ | ⟨d, rfl, q⟩
  · exact seq_step p q
  · exact ⟨_, _, seq_rt p, q⟩
/-- if t: return r -/
theorem seq_guard {t : M Bool} {m : M D} {b : S} {e e1 e2 : Sl} {c : Bool} {d : D} {Q : Fl → Sl → Prop} (h : t e = .ok c e1) (hr : c = true → m e1 = .ok d e2 ∧ Q (.rt d) e2) (hb : c = false → WP (b e1) Q) : WP (seqS (ifS t (retS m) nx) b e) Q := by
  cases c with
  | true => obtain ⟨h1, h2⟩ := hr rfl; exact ⟨_, _, seq_rt ((if_t h).trans (ret_ok h1)), h2⟩
  | false => exact seq_step (if_f h) (hb rfl)
/-! ### a loop that carries a state and may answer early -/
def foldR {σ : Type} (stp : σ → D → σ ⊕ D) : σ → List D → σ ⊕ D
  | s, [] => .inl s
  | s, d :: ds => match stp s d with
    | .inl s' => foldR stp s' ds
    | .inr r => .inr r
theorem for_fold {σ : Type} {it : M (List D)} {t : Tg} {b : S} {e e1 : Sl} {ds : List D} {Q : Fl → Sl → Prop} (J : σ → Sl → Prop) (R : Sl → Prop) (stp : σ → D → σ ⊕ D) (s0 : σ) (hit : it e = .ok ds e1) (h0 : J s0 e1)
    (hb : ∀ s d e', d ∈ ds → J s e' → ∃ e'', t d e' = some e'' ∧ WP (b e'') fun f e2 => match stp s d with
      | .inl s' => (f = .nx ∨ f = .ct) ∧ J s' e2
      | .inr r => f = .rt r ∧ R e2)
    (ht : ∀ s, foldR stp s0 ds = .inl s → ∀ e', J s e' → Q .nx e') (hf : ∀ r, foldR stp s0 ds = .inr r → ∀ e', R e' → Q (.rt r) e') : WP (forS it t b e) Q := by
  have key : ∀ (l : List D), (∀ d ∈ l, d ∈ ds) → ∀ (s : σ) (e' : Sl), J s e' → ∃ f e2, loop t b l e' = .ok f e2 ∧ match foldR stp s l with
      | .inl s' => f = .nx ∧ J s' e2
      | .inr r => f = .rt r ∧ R e2 := by
    intro l
    induction l with
    | nil => intro _ s e' h; exact ⟨.nx, e', by simp [loop], rfl, h⟩
    | cons d l ih =>
      intro hm s e' h
      obtain ⟨e'', p1, f, e2, p2, p3⟩ := hb s d e' (hm d List.mem_cons_self) h
      have hs : stT (t d) () e' = .ok () e'' := by simp [p1]
      unfold foldR
      cases hstp : stp s d with
      | inl s' =>
        rw [hstp] at p3
        obtain ⟨f', e3, q1, q2⟩ := ih (fun d' hd => hm d' (List.mem_cons_of_mem _ hd)) s' e2 p3.2
        refine ⟨f', e3, ?_, q2⟩
        unfold loop
        rw [bd_ok hs, bd_ok p2]
        rcases p3.1 with e | e <;> (subst e; exact q1)
      | inr r =>
        rw [hstp] at p3
        obtain ⟨rfl, p3⟩ := p3
        exact ⟨.rt r, e2, by unfold loop; rw [bd_ok hs, bd_ok p2]; rfl, rfl, p3⟩
  obtain ⟨f, e2, q1, q2⟩ := key ds (fun _ h => h) s0 e1 h0
  refine ⟨f, e2, by unfold forS; rw [bd_ok hit]; exact q1, ?_⟩
  cases hr : foldR stp s0 ds with
  | inl s => rw [hr] at q2; obtain ⟨rfl, q2⟩ := q2; exact ht s hr e2 q2
  | inr r => rw [hr] at q2; obtain ⟨rfl, q2⟩ := q2; exact hf r hr e2 q2
/-- a loop whose turns all run through -/
theorem for_nx {it : M (List D)} {t : Tg} {b : S} {e e1 : Sl} {ds : List D} {Q : Fl → Sl → Prop} (I : Nat → Sl → Prop) (hit : it e = .ok ds e1) (h0 : I 0 e1)
    (ht : ∀ k d e', ds[k]? = some d → I k e' → ∃ e'', t d e' = some e'' ∧ WP (b e'') fun f e2 => f = .nx ∧ I (k + 1) e2) (hf : ∀ e', I ds.length e' → Q .nx e') : WP (forS it t b e) Q :=
  for_wp I hit h0 (fun k d e' hk h => by
    obtain ⟨e'', h1, f, e2, h2, rfl, h3⟩ := ht k d e' hk h
    exact ⟨e'', h1, .nx, e2, h2, h3⟩) hf
@[simp] theorem s_gAddT (a b : List D) : gAdd (.tup a) (.tup b) = if a.length + b.length ≤ 1000000 then some (.tup (a ++ b)) else none := (rfl)
theorem rep_one (d : D) {k : Nat} (h : k ≤ 1000) : gRep (.tup [d]) (.int k) = some (.tup (List.replicate k d)) := by
  unfold gRep
  simp only []
  rw [if_pos ⟨by simp, by omega, by omega, by simp⟩]
  congr 2
  simp
theorem cut_len {α : Type} (xs : List α) (lo hi : Option Int) : (Cr.cutD xs lo hi).length ≤ xs.length := by
  unfold Cr.cutD
  rw [List.length_take, List.length_drop]
  omega
theorem cut_mem {α : Type} {xs : List α} {lo hi : Option Int} {x : α} (h : x ∈ Cr.cutD xs lo hi) : x ∈ xs := List.mem_of_mem_drop (List.mem_of_mem_take h)
@[simp] theorem s_truT (xs : List D) : truth (.tup xs) = some (!xs.isEmpty) := by cases xs <;> rfl
@[simp] theorem s_isNN : gIsN .non .non = some (.bl true) := (rfl)
theorem eqv_self {d : D} (h : nb d = true) : eqv d d = true := (eqv_iff d d h h).mpr rfl
theorem gNe_self {d : D} (h : nb d = true) (hs : sh DEP d = true) : gNe d d = some (.bl false) := by unfold gNe; rw [if_pos ⟨hs, hs⟩, eqv_self h]; rfl
theorem gEq_self {d : D} (h : nb d = true) (hs : sh DEP d = true) : gEq d d = some (.bl true) := by unfold gEq; rw [if_pos ⟨hs, hs⟩, eqv_self h]
@[simp] theorem s_tupR1 (n : Int) : bTupR1 [.int n] = if -1000000 ≤ n ∧ n ≤ 1000000 then some (.tup (rangeD 0 n.toNat)) else none := (rfl)
end Cr

end
section
/-! Dm: what a demand is, as Bools over data; no program in sight. -/
namespace G
open Cr
mutual
/-- no dict, no set in it -/
def nds : D → Bool
  | .tup xs => ndsL xs
  | .lst xs => ndsL xs
  | .dct _ => false
  | .dht _ => false
  | .own _ => false
  | .ins _ _ => false
  | _ => true
def ndsL : List D → Bool
  | [] => true
  | x :: xs => nds x && ndsL xs
end
theorem nds_mem : ∀ {xs : List D} {x : D}, ndsL xs = true → x ∈ xs → nds x = true
  | y :: ys, x, h, hm => by
    simp only [ndsL, Bool.and_eq_true] at h
    rcases List.mem_cons.mp hm with e | e
    · rw [e]; exact h.1
    · exact nds_mem h.2 e
def isI : D → Bool
  | .int _ => true
  | _ => false
/-- a whole number from lo to hi -/
def wi (d : D) (lo hi : Int) : Bool := match d with
  | .int i => decide (lo ≤ i ∧ i ≤ hi)
  | _ => false
def hasB (b : Int) (a : Nat) : Bool := b / pw a % 2 == 1
def negD : D → Bool
  | .int t => decide (t < 0)
  | _ => false
/-- b may stand behind bf -/
def accB (n : Nat) (ts : List D) (bf b : Int) : Bool := decide (0 ≤ b ∧ b ≤ 2 ^ n - 1) && (decide (bf < b) && (List.range n).all (fun a => !(hasB b a && negD (ts.getD a .non))))
/-- one accepted set, behind bf -/
def acc1 (n : Nat) (ts : List D) (bf : Int) (d : D) : Int ⊕ D := match d with
  | .int b => if accB n ts bf b = true then .inl b else .inr (.bl false)
  | _ => .inr (.bl false)
def accOk (n : Nat) (ts : List D) (bf : Int) (as : List D) : Bool := match foldR (acc1 n ts) bf as with
  | .inl _ => true
  | .inr _ => false
theorem acc_ff (n : Nat) (ts : List D) : ∀ (as : List D) (bf : Int) (r : D), foldR (acc1 n ts) bf as = .inr r → r = .bl false
  | [], bf, r, h => by simp [foldR] at h
  | d :: as, bf, r, h => by
    unfold foldR at h
    cases e : acc1 n ts bf d with
    | inl b => rw [e] at h; exact acc_ff n ts as b r h
    | inr x =>
      rw [e] at h
      injection h with h
      subst h
      unfold acc1 at e
      split at e
      · split at e
        · cases e
        · injection e with e; exact e.symm
      · injection e with e; exact e.symm
def isStateD (st : D) (n : Nat) (many : Int) : Bool := match st with
  | .tup [.tup as, .tup ts] => decide (ts.length = n) && (ts.all (fun d => wi d (-1) (many - 1)) && accOk n ts (-1) as)
  | _ => false
def isDemD (d : D) : Bool := match d with
  | .tup [.int n, .tup ss] => decide (0 ≤ n ∧ n ≤ 5) && (decide (1 ≤ ss.length ∧ ss.length ≤ 40) && ss.all fun s => isStateD s n.toNat ss.length)
  | _ => false
def wordD (x : D) (n : Int) : Bool := match x with
  | .tup xs => xs.all (fun d => wi d 0 (n - 1)) && decide (xs.length ≤ 200)
  | _ => false
/-! ### demands as data -/
def stD (p : List Int × List Int) : D := .tup [.tup (p.1.map .int), .tup (p.2.map .int)]
def dmD (n : Nat) (ss : List (List Int × List Int)) : D := .tup [.int n, .tup (ss.map stD)]
structure OkSt (n many : Nat) (p : List Int × List Int) : Prop where
  len : p.2.length = n
  to : ∀ t ∈ p.2, -1 ≤ t ∧ t < many
  up : p.1.Pairwise (· < ·)
  set : ∀ b ∈ p.1, 0 ≤ b ∧ b < 2 ^ n
  led : ∀ b ∈ p.1, ∀ a < n, hasB b a = true → ∀ t, p.2[a]? = some t → 0 ≤ t
structure OkDm (n : Nat) (ss : List (List Int × List Int)) : Prop where
  n5 : n ≤ 5
  l1 : 1 ≤ ss.length
  l40 : ss.length ≤ 40
  st : ∀ p ∈ ss, OkSt n ss.length p
theorem accOk_of {n : Nat} {ts : List Int} (hl : ts.length = n) : ∀ (as : List Int) (bf : Int), (∀ b ∈ as, bf < b) → as.Pairwise (· < ·) → (∀ b ∈ as, 0 ≤ b ∧ b < 2 ^ n) → (∀ b ∈ as, ∀ a < n, hasB b a = true → ∀ t, ts[a]? = some t → 0 ≤ t) → accOk n (ts.map .int) bf (as.map .int) = true
  | [], bf, _, _, _, _ => by simp [accOk, foldR]
  | b :: as, bf, h1, h2, h3, h4 => by
    have e : accB n (ts.map .int) bf b = true := by
      unfold accB
      have := h3 b List.mem_cons_self
      rw [decide_eq_true (show 0 ≤ b ∧ b ≤ 2 ^ n - 1 by omega), decide_eq_true (h1 b List.mem_cons_self), Bool.true_and, Bool.true_and, List.all_eq_true]
      intro a ha
      have ha : a < n := List.mem_range.mp ha
      cases hb : hasB b a with
      | false => rfl
      | true =>
        have := h4 b List.mem_cons_self a ha hb ts[a] (List.getElem?_eq_getElem (by omega))
        rw [List.getD_eq_getElem?_getD, List.getElem?_map, List.getElem?_eq_getElem (by omega)]
        simp only [Option.map_some, Option.getD_some, negD]
        rw [decide_eq_false (by omega)]
        rfl
    have ih := accOk_of hl as b (List.pairwise_cons.mp h2).1 (List.pairwise_cons.mp h2).2 (fun c hc => h3 c (List.mem_cons_of_mem _ hc)) (fun c hc => h4 c (List.mem_cons_of_mem _ hc))
    unfold accOk at ih ⊢
    rw [List.map_cons]
    unfold foldR
    have e2 : acc1 n (ts.map .int) bf (.int b) = .inl b := by unfold acc1; simp only [e, if_true]
    rw [e2]
    exact ih
theorem isState_of {n many : Nat} {p : List Int × List Int} (h : OkSt n many p) : isStateD (stD p) n many = true := by
  unfold isStateD stD
  simp only [List.length_map]
  rw [decide_eq_true h.len, accOk_of h.len p.1 (-1) (fun b hb => by have := (h.set b hb).1; omega) h.up h.set h.led, Bool.true_and, Bool.and_true, List.all_eq_true]
  intro d hd
  obtain ⟨t, ht, rfl⟩ := List.mem_map.mp hd
  have := h.to t ht
  exact decide_eq_true ⟨this.1, by omega⟩
theorem isDem_of {n : Nat} {ss : List (List Int × List Int)} (h : OkDm n ss) : isDemD (dmD n ss) = true := by
  unfold isDemD dmD
  have := h.n5
  have h1 := h.l1
  have h2 := h.l40
  simp only [List.length_map]
  rw [decide_eq_true (show (0 : Int) ≤ n ∧ (n : Int) ≤ 5 by omega), decide_eq_true ⟨h1, h2⟩, Bool.true_and, Bool.true_and, List.all_eq_true]
  intro d hd
  obtain ⟨p, hp, rfl⟩ := List.mem_map.mp hd
  exact isState_of (h.st p hp)
theorem nds_ints (l : List Int) : ndsL (l.map .int) = true := by induction l <;> simp_all [ndsL, nds]
theorem nds_st (p : List Int × List Int) : nds (stD p) = true := by simp [stD, nds, ndsL, nds_ints]
theorem nds_sts (ss : List (List Int × List Int)) : ndsL (ss.map stD) = true := by induction ss <;> simp_all [ndsL, nds_st]
theorem nds_dm (n : Nat) (ss : List (List Int × List Int)) : nds (dmD n ss) = true := by simp [dmD, nds, ndsL, nds_sts]
/-- where a word leads -/
def step1 (ss : List (List Int × List Int)) (q a : Int) : Int := if q < 0 then q else (((ss[q.toNat]?.map (·.2)).getD [])[a.toNat]?).getD (-1)
def aft (ss : List (List Int × List Int)) (w : List Int) : Int := w.foldl (step1 ss) 0
theorem step1_ok {n : Nat} {ss : List (List Int × List Int)} (h : OkDm n ss) {q a : Int} (hq : -1 ≤ q ∧ q < ss.length) (ha : 0 ≤ a ∧ a < n) : -1 ≤ step1 ss q a ∧ step1 ss q a < ss.length := by
  unfold step1
  split
  · exact hq
  · have hlt : q.toNat < ss.length := by omega
    rw [List.getElem?_eq_getElem hlt]
    simp only [Option.map_some, Option.getD_some]
    have hs := h.st _ (List.getElem_mem hlt)
    have hl := hs.len
    rw [List.getElem?_eq_getElem (show a.toNat < ss[q.toNat].2.length by omega)]
    exact hs.to _ (List.getElem_mem _)
theorem aft_ok {n : Nat} {ss : List (List Int × List Int)} (h : OkDm n ss) (w : List Int) (hw : ∀ a ∈ w, 0 ≤ a ∧ a < (n : Int)) : -1 ≤ aft ss w ∧ aft ss w < ss.length := by
  have key : ∀ (w : List Int) (q : Int), (∀ a ∈ w, 0 ≤ a ∧ a < (n : Int)) → (-1 ≤ q ∧ q < ss.length) → -1 ≤ w.foldl (step1 ss) q ∧ w.foldl (step1 ss) q < ss.length := by
    intro w
    induction w with
    | nil => intro q _ h; exact h
    | cons a w ih => intro q hw hq; exact ih _ (fun b hb => hw b (List.mem_cons_of_mem _ hb)) (step1_ok h hq (hw a List.mem_cons_self))
  have := h.l1
  exact key w 0 hw (by omega)
theorem nb_ints' (l : List Int) : nbL (l.map .int) = true := nb_ints l
theorem nb_st (p : List Int × List Int) : nb (stD p) = true := by simp [stD, nb, nbL, nb_ints]
theorem nb_dm (n : Nat) (ss : List (List Int × List Int)) : nb (dmD n ss) = true := by
  have : nbL (ss.map stD) = true := by induction ss <;> simp_all [nbL, nb_st]
  simp [dmD, nb, nbL, this]
theorem sh_st (k : Nat) (p : List Int × List Int) : sh (k + 2) (stD p) = true := by simp [stD, sh, shL, shL_ints]
theorem sh_dm (n : Nat) (ss : List (List Int × List Int)) : sh DEP (dmD n ss) = true := by
  have : ∀ k, shL (k + 2) (ss.map stD) = true := fun k => by induction ss <;> simp_all [shL, sh_st]
  have e := this 56
  simp [dmD, sh, shL, DEP]
  exact e
theorem aft_snoc (ss : List (List Int × List Int)) (w : List Int) (a : Int) : aft ss (w ++ [a]) = step1 ss (aft ss w) a := by unfold aft; rw [List.foldl_append]; rfl
theorem aft_non (n : Nat) (w : List Int) (hw : ∀ a ∈ w, 0 ≤ a ∧ a < (n : Int)) : aft [([], List.replicate n (-1))] w = if w.isEmpty = true then 0 else -1 := by
  have key : ∀ (w : List Int), w.foldl (step1 [([], List.replicate n (-1))]) (-1) = -1 := by
    intro w
    induction w with
    | nil => rfl
    | cons a w ih => exact ih
  cases w with
  | nil => rfl
  | cons a w =>
    show w.foldl (step1 [([], List.replicate n (-1))]) (step1 [([], List.replicate n (-1))] 0 a) = _
    have e : step1 [([], List.replicate n (-1))] 0 a = -1 := by
      unfold step1
      have := hw a List.mem_cons_self
      simp
      rw [List.getElem?_replicate]
      split <;> rfl
    rw [e]
    exact key w
end G

end
section
/-! Mc: what a machine is, as Bools over data; no program in sight. -/
namespace G
open Cr
/-- one edge, behind bf -/
def edge1 (n : Int) (many : Int) (bf : Int × Int) (d : D) : (Int × Int) ⊕ D := match d with
  | .tup [.int a, .int t] => if (decide (0 ≤ a ∧ a ≤ n - 1) && (decide (0 ≤ t ∧ t ≤ many - 1) && prLt bf (a, t))) = true then .inl (a, t) else .inr (.bl false)
  | _ => .inr (.bl false)
def isRowD (r : D) (n many : Int) : Bool := match r with
  | .tup es => (match foldR (edge1 n many) (-1, -1) es with
    | .inl _ => true
    | .inr _ => false)
  | _ => false
def rowLen : D → Nat
  | .tup es => es.length
  | _ => 0
def isMachD (m : D) : Bool := match m with
  | .tup [.int n, .tup rs] => decide (0 ≤ n ∧ n ≤ 5) && (decide (1 ≤ rs.length ∧ rs.length ≤ 400) && (rs.all (fun r => isRowD r n rs.length) && decide ((rs.map rowLen).sum ≤ 6000)))
  | _ => false
theorem edge_ff (n many : Int) : ∀ (es : List D) (bf : Int × Int) (r : D), foldR (edge1 n many) bf es = .inr r → r = .bl false
  | [], bf, r, h => by simp [foldR] at h
  | d :: es, bf, r, h => by
    unfold foldR at h
    cases e : edge1 n many bf d with
    | inl b => rw [e] at h; exact edge_ff n many es b r h
    | inr x =>
      rw [e] at h
      injection h with h
      subst h
      unfold edge1 at e
      split at e
      · split at e
        · cases e
        · injection e with e; exact e.symm
      · injection e with e; exact e.symm
theorem lexLe_two (a t b0 b1 : Int) : lexLe [a, t] [b0, b1] = !prLt (b0, b1) (a, t) := by
  unfold lexLe prLt
  by_cases e : a = b0
  · subst e
    rw [if_pos rfl, if_pos rfl]
    unfold lexLe
    by_cases e : t = b1
    · subst e; simp [lexLe]
    · rw [if_neg e]
      by_cases h : t < b1
      · rw [decide_eq_true h, decide_eq_false (by omega)]; rfl
      · rw [decide_eq_false h, decide_eq_true (by omega)]; rfl
  · rw [if_neg e, if_neg (by omega)]
    by_cases h : a < b0
    · rw [decide_eq_true h, decide_eq_false (by omega)]; rfl
    · rw [decide_eq_false h, decide_eq_true (by omega)]; rfl
/-! ### machines as data -/
def rowD (r : List (Int × Int)) : D := .tup (r.map prD)
def mcD (n : Nat) (rs : List (List (Int × Int))) : D := .tup [.int n, .tup (rs.map rowD)]
structure OkRow (n many : Nat) (r : List (Int × Int)) : Prop where
  let_ : ∀ e ∈ r, 0 ≤ e.1 ∧ e.1 < n
  to : ∀ e ∈ r, 0 ≤ e.2 ∧ e.2 < many
  up : r.Pairwise fun p q => prLt p q = true
structure OkMc (n : Nat) (rs : List (List (Int × Int))) : Prop where
  n5 : n ≤ 5
  l1 : 1 ≤ rs.length
  l400 : rs.length ≤ 400
  few : (rs.map List.length).sum ≤ 6000
  row : ∀ r ∈ rs, OkRow n rs.length r
theorem edges_of {n many : Nat} : ∀ (r : List (Int × Int)) (bf : Int × Int), (∀ e ∈ r, prLt bf e = true) → (∀ e ∈ r, 0 ≤ e.1 ∧ e.1 < n) → (∀ e ∈ r, 0 ≤ e.2 ∧ e.2 < many) → r.Pairwise (fun p q => prLt p q = true) → ∃ b, foldR (edge1 n many) bf (r.map prD) = .inl b
  | [], bf, _, _, _, _ => ⟨bf, rfl⟩
  | e :: r, bf, h1, h2, h3, h4 => by
    obtain ⟨a, t⟩ := e
    have hp := List.pairwise_cons.mp h4
    obtain ⟨b, hb⟩ := edges_of r (a, t) hp.1 (fun e he => h2 e (List.mem_cons_of_mem _ he)) (fun e he => h3 e (List.mem_cons_of_mem _ he)) hp.2
    refine ⟨b, ?_⟩
    have e1 := h2 (a, t) List.mem_cons_self
    have e2 := h3 (a, t) List.mem_cons_self
    have e3 := h1 (a, t) List.mem_cons_self
    have e : edge1 n many bf (prD (a, t)) = .inl (a, t) := by
      unfold edge1 prD
      simp only [e3]
      rw [decide_eq_true (show 0 ≤ a ∧ a ≤ (n : Int) - 1 by have := e1.1; have := e1.2; exact ⟨by assumption, by omega⟩), decide_eq_true (show 0 ≤ t ∧ t ≤ (many : Int) - 1 by have := e2.1; have := e2.2; exact ⟨by assumption, by omega⟩)]
      rfl
    rw [List.map_cons]
    unfold foldR
    rw [e]
    exact hb
theorem isRow_of {n many : Nat} {r : List (Int × Int)} (h : OkRow n many r) : isRowD (rowD r) n many = true := by
  obtain ⟨b, hb⟩ := edges_of r (-1, -1) (fun e he => prLt_iff.mpr (by have := h.let_ e he; simp only; omega)) h.let_ h.to h.up
  unfold isRowD rowD
  simp only [hb]
theorem isMach_of {n : Nat} {rs : List (List (Int × Int))} (h : OkMc n rs) : isMachD (mcD n rs) = true := by
  unfold isMachD mcD
  have h0 := h.n5
  have h1 := h.l1
  have h2 := h.l400
  simp only [List.length_map, List.map_map]
  have hs : (rs.map (rowLen ∘ rowD)) = rs.map List.length := List.map_congr_left fun r _ => by simp [rowLen, rowD]
  rw [decide_eq_true (show (0 : Int) ≤ n ∧ (n : Int) ≤ 5 by omega), decide_eq_true ⟨h1, h2⟩, hs, decide_eq_true h.few, Bool.true_and, Bool.true_and, Bool.and_true, List.all_eq_true]
  intro d hd
  obtain ⟨p, hp, rfl⟩ := List.mem_map.mp hd
  exact isRow_of (h.row p hp)
theorem nds_row (r : List (Int × Int)) : nds (rowD r) = true := by
  have : ndsL (r.map prD) = true := by induction r <;> simp_all [ndsL, nds, prD]
  exact this
theorem nds_mc (n : Nat) (rs : List (List (Int × Int))) : nds (mcD n rs) = true := by
  have : ndsL (rs.map rowD) = true := by induction rs <;> simp_all [ndsL, nds_row]
  simp [mcD, nds, ndsL, this]
theorem eqv_pr (p q : Int × Int) : eqv (prD p) (prD q) = decide (p = q) := by
  have h := eqv_iff (prD p) (prD q) (by simp [prD, nb, nbL]) (by simp [prD, nb, nbL])
  have e : prD p = prD q ↔ p = q := ⟨fun h => by
    unfold prD at h
    injection h with h
    simp at h
    exact Prod.ext h.1 h.2, fun h => by rw [h]⟩
  rw [Bool.eq_iff_iff, h, e, decide_eq_true_eq]
theorem sh_pr (k : Nat) (p : Int × Int) : sh (k + 1) (prD p) = true := by simp [prD, sh, shL, sh_int]
theorem gIn_prs (p : Int × Int) (es : List (Int × Int)) : gIn (prD p) (.lst (es.map prD)) = some (.bl (decide (p ∈ es))) := by
  have h1 : shL DEP (es.map prD) = true := by
    have : ∀ k, shL (k + 1) (es.map prD) = true := fun k => by induction es <;> simp_all [shL, sh_pr]
    exact this 59
  have h2 : sh DEP (prD p) = true := sh_pr 59 p
  simp only [gIn, h1, h2, and_self, if_true, List.any_map]
  congr 2
  induction es with
  | nil => simp
  | cons y L ih =>
    have hL : shL DEP (L.map prD) = true := by
      have : ∀ k, shL (k + 1) (L.map prD) = true := fun k => by clear ih h1; induction L <;> simp_all [shL, sh_pr]
      exact this 59
    have ih := ih hL
    simp only [List.any_cons, Function.comp, eqv_pr, List.mem_cons] at ih ⊢
    rw [ih]
    by_cases e : y = p
    · simp [e]
    · have e' : ¬ p = y := fun z => e z.symm
      simp [e, e']
theorem gNi_prs (p : Int × Int) (es : List (Int × Int)) : gNi (prD p) (.lst (es.map prD)) = some (.bl (!decide (p ∈ es))) := by unfold gNi; rw [gIn_prs]
theorem prsD_map (es : List (Int × Int)) : prsD (es.map prD) = some es := by
  induction es with
  | nil => rfl
  | cons e es ih => simp [prsD, prD, ih]
theorem psort_mem (l : List (Int × Int)) (x : Int × Int) : x ∈ psort l ↔ x ∈ l := (psort_perm l).mem_iff
theorem psort_lt {l : List (Int × Int)} (h : l.Nodup) : (psort l).Pairwise fun p q => prLt p q = true := by
  have h1 := psort_pw l
  have h2 : (psort l).Nodup := (psort_perm l).nodup_iff.mpr h
  refine (List.Pairwise.and h1 h2).imp fun {p q} ⟨a, b⟩ => ?_
  have a := prLt_false.mp a
  refine prLt_iff.mpr ?_
  have : ¬ (p.1 = q.1 ∧ p.2 = q.2) := fun e => b (Prod.ext e.1 e.2)
  omega
end G

end
section
/-! Sp: rows that are spoilt; no program in sight. -/
namespace G
open Cr
theorem foldR_app {σ : Type} (stp : σ → D → σ ⊕ D) : ∀ (a b : List D) (s : σ), foldR stp s (a ++ b) = match foldR stp s a with
    | .inl s' => foldR stp s' b
    | .inr r => .inr r
  | [], b, s => rfl
  | d :: a, b, s => by
    simp only [List.cons_append, foldR]
    cases stp s d with
    | inl s' => exact foldR_app stp a b s'
    | inr r => rfl
/-- a fold that fails behind any start -/
def Stops (n many : Int) (l : List D) : Prop := ∀ bf, ∃ r, foldR (edge1 n many) bf l = .inr r
theorem Stops.row {n many : Int} {l : List D} (h : Stops n many l) : isRowD (.tup l) n many = false := by
  obtain ⟨r, hr⟩ := h (-1, -1)
  unfold isRowD
  simp only [hr]
theorem Stops.behind {n many : Int} {l : List D} (h : Stops n many l) (a : List D) : Stops n many (a ++ l) := fun bf => by
  rw [foldR_app]
  cases foldR (edge1 n many) bf a with
  | inl s => exact h s
  | inr r => exact ⟨r, rfl⟩
theorem Stops.ahead {n many : Int} {l : List D} (h : Stops n many l) (b : List D) : Stops n many (l ++ b) := fun bf => by
  obtain ⟨r, hr⟩ := h bf
  rw [foldR_app, hr]
  exact ⟨r, rfl⟩
theorem stops_bad {n many : Int} {d : D} (h : ∀ bf, edge1 n many bf d = .inr (.bl false)) : Stops n many [d] := fun bf => ⟨.bl false, by unfold foldR; rw [h bf]⟩
/-- two neighbours that do not rise -/
theorem stops_two {n many : Int} {p q : Int × Int} (h : prLt p q = false) : Stops n many [prD p, prD q] := fun bf => by
  unfold foldR
  cases e : edge1 n many bf (prD p) with
  | inr r => exact ⟨r, rfl⟩
  | inl b =>
    have hb : b = p := by
      unfold edge1 prD at e
      simp only at e
      split at e
      · injection e with e; rw [← e]
      · cases e
    subst hb
    unfold foldR
    have : edge1 n many b (prD q) = .inr (.bl false) := by
      unfold edge1 prD
      simp [h]
    simp only [this]
    exact ⟨_, rfl⟩
theorem cut_to {α : Type} (xs : List α) (k : Nat) : cutD xs none (some (k : Int)) = xs.take k := by
  unfold cutD sIx
  simp only []
  rw [if_neg (by omega)]
  simp only [List.drop_zero, Int.toNat_natCast, Nat.sub_zero]
  by_cases h : k ≤ xs.length
  · rw [Nat.min_eq_left h]
  · rw [Nat.min_eq_right (by omega), List.take_of_length_le (Nat.le_refl _), List.take_of_length_le (by omega)]
theorem cut_from {α : Type} (xs : List α) (k : Nat) : cutD xs (some (k : Int)) none = xs.drop k := by
  unfold cutD sIx
  simp only []
  rw [if_neg (by omega)]
  simp only [Int.toNat_natCast]
  by_cases h : k ≤ xs.length
  · rw [Nat.min_eq_left h, List.take_of_length_le (by simp)]
  · rw [Nat.min_eq_right (by omega), List.drop_of_length_le (Nat.le_refl _), List.drop_of_length_le (by omega), List.take_nil]
theorem cut_to1 {α : Type} (xs : List α) : cutD xs none (some 1) = xs.take 1 := cut_to xs 1
/-- what a row may be replaced by -/
def spoils (n size : Nat) (es : List D) : List D :=
  [.tup (es ++ [.tup [.int n, .int 0]]), .tup (es ++ [.tup [.int (-1), .int 0]]), .tup (es ++ [.tup [.int 0, .int size]]), .tup (es ++ [.tup [.int 0, .int (-1)]]), .tup (es ++ [.tup [.bl true, .int 0]]), .tup (es ++ [.tup [.int 0, .bl true]]), .tup (es ++ [.tup [.int 0]]), .tup (es ++ [.tup [.int 0, .int 0, .int 0]]),
   .tup (es ++ [.int 0]), .tup (es ++ [.non]), .tup (es ++ [.str "a0"]), .tup (es ++ [.tup [.str "0", .int 0]]), .tup (es ++ [.tup [.int 0, .non]]), .tup (es ++ es), .tup (es.take 1 ++ es), .non, .int 7, .str "", .tup [.tup es]]
/-- .. at place k of a row -/
def spoilsAt (size : Nat) (es : List D) (p q : Int × Int) (k : Nat) : List D :=
  [.tup (es.take k ++ [prD q, prD p] ++ es.drop (k + 2)), .tup (es.take (k + 1) ++ es.drop k), .tup (es.take k ++ [.tup [.int p.1, .int size]] ++ es.drop (k + 1)),
   .tup (es.take k ++ [.tup [.int p.1, .int (-1)]] ++ es.drop (k + 1)), .tup (es.take k ++ [.tup [.int p.1, .int 99]] ++ es.drop k), .tup (es.take k ++ [.tup [.int p.1, .str "0"]] ++ es.drop k)]
theorem prLt_irr (p : Int × Int) : prLt p p = false := prLt_false.mpr (by omega)
/-- no row, and can be looked at -/
structure NoRow (n size : Nat) (x : D) : Prop where
  nds : nds x = true
  sh : ∀ k, sh (k + 3) x = true
  bad : isRowD x n size = false
/-- data of which a row's items are made -/
def Pc (x : D) : Prop := nds x = true ∧ ∀ k, sh (k + 1) x = true
theorem pc_prs (r : List (Int × Int)) : ∀ d ∈ r.map prD, Pc d := fun d hd => by
  obtain ⟨p, _, rfl⟩ := List.mem_map.mp hd
  exact ⟨by simp [prD, nds, ndsL], fun k => by simp [prD, sh, shL, sh_int]⟩
theorem pcs_nds {l : List D} (h : ∀ d ∈ l, Pc d) : ndsL l = true := by
  induction l with
  | nil => rfl
  | cons d l ih => simp only [ndsL, (h d List.mem_cons_self).1, ih fun x hx => h x (List.mem_cons_of_mem _ hx), Bool.and_self]
theorem pcs_sh {l : List D} (h : ∀ d ∈ l, Pc d) (k : Nat) : shL (k + 1) l = true := by
  induction l with
  | nil => simp [shL]
  | cons d l ih => simp only [shL, (h d List.mem_cons_self).2 k, ih fun x hx => h x (List.mem_cons_of_mem _ hx), Bool.and_self]
theorem NoRow.of {n size : Nat} {l : List D} (h : ∀ d ∈ l, Pc d) (hb : Stops n size l) : NoRow n size (.tup l) := ⟨by simp only [G.nds]; exact pcs_nds h, fun k => by simp only [Cr.sh]; exact pcs_sh h (k + 1), hb.row⟩
theorem pcs_app {a b : List D} (ha : ∀ d ∈ a, Pc d) (hb : ∀ d ∈ b, Pc d) : ∀ d ∈ a ++ b, Pc d := fun d hd => (List.mem_append.mp hd).elim (ha d) (hb d)
theorem pcs_one {d : D} (h : Pc d) : ∀ x ∈ [d], Pc x := fun x hx => by rw [List.mem_singleton.mp hx]; exact h
theorem pc_two (a b : D) (ha : scal a = true) (hb : scal b = true) (h1 : ∀ k, sh k a = true) (h2 : ∀ k, sh k b = true) : Pc (.tup [a, b]) := ⟨by cases a <;> cases b <;> simp_all [scal, nds, ndsL], fun k => by simp [sh, shL, h1, h2]⟩
theorem sh_str {s : PySem.Str} (h : s.cps.all (· < 0x110000) = true) (k : Nat) : sh k (.str s) = true := by cases k <;> (unfold sh; exact h)
theorem sh_a0 (k : Nat) : sh k (.str "a0") = true := sh_str (by decide +kernel) k
theorem sh_0 (k : Nat) : sh k (.str "0") = true := sh_str (by decide +kernel) k
theorem sh_e (k : Nat) : sh k (.str "") = true := sh_str (by decide +kernel) k
theorem sh_non (k : Nat) : sh k .non = true := by cases k <;> simp [sh]
theorem sh_bl (k : Nat) (b : Bool) : sh k (.bl b) = true := by cases k <;> simp [sh]
theorem spoils_no {n size : Nat} {r : List (Int × Int)} (hr : OkRow n size r) {x : D} (hx : x ∈ spoils n size (r.map prD)) : NoRow n size x ∨ x = rowD r := by
  have hes := pc_prs r
  have one : ∀ d : D, Pc d → (∀ bf, edge1 n size bf d = .inr (.bl false)) → NoRow n size (.tup (r.map prD ++ [d])) ∨ (.tup (r.map prD ++ [d]) : D) = rowD r := fun d hd he =>
    .inl (.of (pcs_app hes (pcs_one hd)) ((stops_bad he).behind _))
  simp only [spoils, List.mem_cons, List.not_mem_nil, or_false] at hx
  rcases hx with rfl | rfl | rfl | rfl | rfl | rfl | rfl | rfl | rfl | rfl | rfl | rfl | rfl | rfl | rfl | rfl | rfl | rfl | rfl
  · exact one _ (pc_two _ _ rfl rfl (fun k => sh_int k _) (fun k => sh_int k _)) fun bf => by simp [edge1]; omega
  · exact one _ (pc_two _ _ rfl rfl (fun k => sh_int k _) (fun k => sh_int k _)) fun bf => by simp [edge1]
  · exact one _ (pc_two _ _ rfl rfl (fun k => sh_int k _) (fun k => sh_int k _)) fun bf => by simp [edge1]; omega
  · exact one _ (pc_two _ _ rfl rfl (fun k => sh_int k _) (fun k => sh_int k _)) fun bf => by simp [edge1]
  · exact one _ (pc_two _ _ rfl rfl (fun k => sh_bl k _) (fun k => sh_int k _)) fun bf => rfl
  · exact one _ (pc_two _ _ rfl rfl (fun k => sh_int k _) (fun k => sh_bl k _)) fun bf => rfl
  · exact one _ ⟨rfl, fun k => by simp [sh, shL, sh_int]⟩ fun bf => rfl
  · exact one _ ⟨rfl, fun k => by simp [sh, shL, sh_int]⟩ fun bf => rfl
  · exact one _ ⟨rfl, fun k => sh_int _ _⟩ fun bf => rfl
  · exact one _ ⟨rfl, fun k => sh_non _⟩ fun bf => rfl
  · exact one _ ⟨rfl, fun k => sh_a0 _⟩ fun bf => rfl
  · exact one _ (pc_two _ _ rfl rfl sh_0 (fun k => sh_int k _)) fun bf => rfl
  · exact one _ (pc_two _ _ rfl rfl (fun k => sh_int k _) sh_non) fun bf => rfl
  · cases r with
    | nil => exact .inr rfl
    | cons p r =>
      refine .inl (.of (pcs_app hes hes) ?_)
      obtain ⟨l, ini, h⟩ : ∃ l ini, p :: r = ini ++ [l] := by
        rcases List.eq_nil_or_concat (p :: r) with h | ⟨ini, l, h⟩
        · cases h
        · exact ⟨l, ini, by simpa using h⟩
      have hlp : prLt l p = false := by
        cases ini with
        | nil => simp at h; rw [h.1]; exact prLt_irr l
        | cons a ini =>
          simp at h
          have hu := hr.up
          have hm : l ∈ r := by rw [h.2]; simp
          have := (List.pairwise_cons.mp hu).1 l hm
          have := prLt_iff.mp this
          exact prLt_false.mpr (by omega)
      have e : (p :: r).map prD ++ (p :: r).map prD = ini.map prD ++ ([prD l, prD p] ++ r.map prD) := by
        conv => lhs; arg 1; rw [h]
        simp
      rw [e]
      exact ((stops_two hlp).ahead _).behind _
  · cases r with
    | nil => exact .inr rfl
    | cons p r =>
      refine .inl (.of (pcs_app (fun d hd => hes d (List.mem_of_mem_take hd)) hes) ?_)
      exact (stops_two (prLt_irr p)).ahead (r.map prD)
  · exact .inl ⟨rfl, fun k => sh_non _, rfl⟩
  · exact .inl ⟨rfl, fun k => sh_int _ _, rfl⟩
  · exact .inl ⟨rfl, fun k => sh_e _, rfl⟩
  · refine .inl ⟨by simp [G.nds, ndsL, pcs_nds hes], fun k => by simp [Cr.sh, shL, pcs_sh hes], Stops.row (stops_bad fun bf => ?_)⟩
    cases r with
    | nil => rfl
    | cons p r => cases r with
      | nil => rfl
      | cons q r => cases r <;> rfl
theorem spoilsAt_no {n size : Nat} (hs : size ≤ 50) {r : List (Int × Int)} (hr : OkRow n size r) {k : Nat} {p q : Int × Int} (hp : r[k]? = some p) (hq : r[k + 1]? = some q) {x : D} (hx : x ∈ spoilsAt size (r.map prD) p q k) : NoRow n size x := by
  have hes := pc_prs r
  have ht : ∀ j, ∀ d ∈ (r.map prD).take j, Pc d := fun j d hd => hes d (List.mem_of_mem_take hd)
  have hd : ∀ j, ∀ d ∈ (r.map prD).drop j, Pc d := fun j d hd => hes d (List.mem_of_mem_drop hd)
  have hpl := (List.getElem?_eq_some_iff.mp hp).1
  have hql := (List.getElem?_eq_some_iff.mp hq).1
  have pp : ∀ z : Int × Int, Pc (prD z) := fun z => pc_prs [z] (prD z) (by simp)
  have one : ∀ (d : D) (j : Nat), Pc d → (∀ bf, edge1 n size bf d = .inr (.bl false)) → NoRow n size (.tup ((r.map prD).take k ++ [d] ++ (r.map prD).drop j)) := fun d j h1 he =>
    .of (pcs_app (pcs_app (ht k) (pcs_one h1)) (hd j)) (((stops_bad he).behind _).ahead _)
  simp only [spoilsAt, List.mem_cons, List.not_mem_nil, or_false] at hx
  rcases hx with rfl | rfl | rfl | rfl | rfl | rfl
  · refine .of (pcs_app (pcs_app (ht k) ?_) (hd _)) (((stops_two ?_).behind _).ahead _)
    · intro d hd
      simp at hd
      rcases hd with rfl | rfl
      · exact pp q
      · exact pp p
    · have : prLt p q = true := by
        have := List.pairwise_iff_getElem.mp hr.up k (k + 1) hpl hql (by omega)
        rw [(List.getElem?_eq_some_iff.mp hp).2, (List.getElem?_eq_some_iff.mp hq).2] at this
        exact this
      have := prLt_iff.mp this
      exact prLt_false.mpr (by omega)
  · refine .of (pcs_app (ht _) (hd _)) ?_
    have e : (r.map prD).take (k + 1) ++ (r.map prD).drop k = (r.map prD).take k ++ ([prD p, prD p] ++ (r.map prD).drop (k + 1)) := by
      rw [List.take_succ, List.drop_eq_getElem_cons (show k < (r.map prD).length by simpa using hpl), List.getElem?_map, hp, List.getElem_map, (List.getElem?_eq_some_iff.mp hp).2]
      simp
    rw [e]
    exact ((stops_two (prLt_irr p)).ahead _).behind _
  · exact one _ _ (pc_two _ _ rfl rfl (fun k => sh_int k _) (fun k => sh_int k _)) fun bf => by simp [edge1]; omega
  · exact one _ _ (pc_two _ _ rfl rfl (fun k => sh_int k _) (fun k => sh_int k _)) fun bf => by simp [edge1]
  · exact one _ _ (pc_two _ _ rfl rfl (fun k => sh_int k _) (fun k => sh_int k _)) fun bf => by simp [edge1]; omega
  · exact one _ _ (pc_two _ _ rfl rfl (fun k => sh_int k _) sh_0) fun bf => rfl
theorem sh_tup (k : Nat) (xs : List D) : sh (k + 1) (.tup xs) = shL k xs := by simp [sh]
theorem shL_cons (k : Nat) (x : D) (xs : List D) : shL k (x :: xs) = (sh k x && shL k xs) := by simp [shL]
theorem shL_nil (k : Nat) : shL k [] = true := by simp [shL]
/-! ### what may stand for a machine -/
structure NoMc (x : D) : Prop where
  nds : nds x = true
  sh : sh DEP x = true
  bad : isMachD x = false
/-- the bad row in its place -/
theorem noMc_row {n : Nat} {rs : List (List (Int × Int))} {k : Nat} (hk : k < rs.length) {x : D} (hx : NoRow n rs.length x) : NoMc (.tup [.int n, .tup ((rs.map rowD).take k ++ [x] ++ (rs.map rowD).drop (k + 1))]) := by
  have hl : ((rs.map rowD).take k ++ [x] ++ (rs.map rowD).drop (k + 1)).length = rs.length := by simp; omega
  have hall : ∀ d ∈ (rs.map rowD).take k ++ [x] ++ (rs.map rowD).drop (k + 1), G.nds d = true ∧ Cr.sh 58 d = true := by
    have h0 : ∀ d ∈ rs.map rowD, G.nds d = true ∧ Cr.sh 58 d = true := fun d hd => by
      obtain ⟨r, _, rfl⟩ := List.mem_map.mp hd
      exact ⟨nds_row r, by simp only [rowD, Cr.sh]; exact pcs_sh (pc_prs r) 56⟩
    intro d hd
    rcases List.mem_append.mp hd with h | h
    · rcases List.mem_append.mp h with h | h
      · exact h0 d (List.mem_of_mem_take h)
      · rw [List.mem_singleton.mp h]; exact ⟨hx.nds, hx.sh 55⟩
    · exact h0 d (List.mem_of_mem_drop h)
  generalize hL : (rs.map rowD).take k ++ [x] ++ (rs.map rowD).drop (k + 1) = L at *
  have hxL : x ∈ L := by rw [← hL]; simp
  have h1 : ndsL L = true := by
    clear hL hxL hl
    induction L with
    | nil => rfl
    | cons d L ih => simp only [ndsL, (hall d List.mem_cons_self).1, ih fun z hz => hall z (List.mem_cons_of_mem _ hz), Bool.and_self]
  have h2 : shL 58 L = true := by
    clear hL hxL hl h1
    induction L with
    | nil => simp [shL]
    | cons d L ih => simp only [shL, (hall d List.mem_cons_self).2, ih fun z hz => hall z (List.mem_cons_of_mem _ hz), Bool.and_self]
  refine ⟨by simp [G.nds, ndsL, h1], by simp [DEP, Cr.sh, shL, sh_int, h2], ?_⟩
  have : L.all (fun r => isRowD r n L.length) = false := List.all_eq_false.mpr ⟨x, hxL, by rw [hl]; simp [hx.bad]⟩
  unfold isMachD
  simp only [this, Bool.false_and, Bool.and_false]
/-- what else is no machine -/
def others (n : Nat) (rows : D) : List D := [.tup [.int 6, rows], .tup [.int (-1), rows], .tup [.bl true, .tup [.tup []]], .tup [.non, rows], .tup [.str "2", rows], .tup [.int n, .tup []], .tup [.int n, .non], .tup [.int n, .int 3], .tup [.int n], .tup [.int n, rows, rows], .tup [], .non, .int 5, .str "machine", rows, .tup [rows, .int n]]
theorem sh_2 (k : Nat) : sh k (.str "2") = true := sh_str (by decide +kernel) k
theorem sh_ma (k : Nat) : sh k (.str "machine") = true := sh_str (by decide +kernel) k
theorem others_no {n : Nat} {rs : List (List (Int × Int))} {x : D} (hx : x ∈ others n (.tup (rs.map rowD))) : NoMc x := by
  have h1 : ndsL (rs.map rowD) = true := by clear hx; induction rs <;> simp_all [ndsL, nds_row]
  have h2 : ∀ k, shL (k + 3) (rs.map rowD) = true := fun k => by
    clear h1 hx
    induction rs with
    | nil => simp [shL]
    | cons r rs ih =>
      simp only [List.map_cons, shL, Bool.and_eq_true]
      exact ⟨by simp only [rowD, Cr.sh]; exact pcs_sh (pc_prs r) _, ih⟩
  simp only [others, List.mem_cons, List.not_mem_nil, or_false] at hx
  rcases hx with rfl | rfl | rfl | rfl | rfl | rfl | rfl | rfl | rfl | rfl | rfl | rfl | rfl | rfl | rfl | rfl
  · exact ⟨by simp [nds, ndsL, h1], by simp [DEP, sh, shL, sh_int, h2 55], by simp [isMachD]⟩
  · exact ⟨by simp [nds, ndsL, h1], by simp [DEP, sh, shL, sh_int, h2 55], by simp [isMachD]⟩
  · exact ⟨rfl, rfl, rfl⟩
  · exact ⟨by simp [nds, ndsL, h1], by simp [DEP, sh, shL, sh_non, h2 55], rfl⟩
  · refine ⟨by simp [nds, ndsL, h1], ?_, rfl⟩
    show sh (59 + 1) _ = true
    rw [sh_tup, shL_cons, shL_cons, sh_2, sh_tup 58, h2 55, shL_nil]
    rfl
  · exact ⟨rfl, by simp [DEP, sh, shL, sh_int], by simp [isMachD]⟩
  · exact ⟨rfl, by simp [DEP, sh, shL, sh_int, sh_non], rfl⟩
  · exact ⟨rfl, by simp [DEP, sh, shL, sh_int], rfl⟩
  · exact ⟨rfl, by simp [DEP, sh, shL, sh_int], rfl⟩
  · exact ⟨by simp [nds, ndsL, h1], by simp [DEP, sh, shL, sh_int, h2 55], rfl⟩
  · exact ⟨rfl, rfl, rfl⟩
  · exact ⟨rfl, rfl, rfl⟩
  · exact ⟨rfl, rfl, rfl⟩
  · exact ⟨rfl, sh_ma _, rfl⟩
  · refine ⟨by simp [nds, h1], by simp [DEP, sh, h2 56], ?_⟩
    cases rs with
    | nil => rfl
    | cons r rs => rfl
  · exact ⟨by simp [nds, ndsL, h1], by simp [DEP, sh, shL, sh_int, h2 55], rfl⟩
end G

end
section
/-! Evt: the equations of Ct. -/
namespace Cr
open PySem (Str)
@[simp] theorem s_mv (i : Nat) (e : Sl) : mv i e = (bd (rd i) fun d => bd (clr i) fun _ => pu d) e := (rfl)
@[simp] theorem s_gAddL (a b : List D) : gAddL (.lst a) (.lst b) = if a.length + b.length ≤ 1000000 then some (.lst (a ++ b)) else none := (rfl)
@[simp] theorem s_scE (m : M D) (e : Sl) : scE m e = (bd m fun d => if scal d = true then pu d else badM) e := (rfl)
@[simp] theorem s_appX (i : Nat) (m : M D) (e : Sl) : appX i m e = (bd (rd i) fun d => match d with
  | .lst _ => appS i m
  | _ => badM) e := (rfl)
@[simp] theorem s_keys (ks : Ents) : bKeys [.dct ks] = some (.lst (ks.map (·.1))) := (rfl)
/-- a comprehension that gathers: each turn comes back to the same slots -/
theorem gath {α : Type} {vs : List Nat} {t : Tg} {c : M Bool} {em : α → M α} {w : Sl} (I : α → Prop) (g : α → D → α) (p : D → Bool) : ∀ (ds : List D),
    (∀ d ∈ ds, ∃ e1 e2, t d w = some e1 ∧ c e1 = .ok (p d) e2 ∧ wipeE e2 vs = w ∧ (p d = true → ∀ acc, I acc → ∃ e3, em acc e2 = .ok (g acc d) e3 ∧ wipeE e3 vs = w ∧ I (g acc d))) →
    ∀ (acc : α) (e : Sl), I acc → wipeE e vs = w → ∃ e', compG vs t c em ds acc e = .ok (ds.foldl (fun a d => if p d = true then g a d else a) acc) e' ∧ wipeE e' vs = w ∧ I (ds.foldl (fun a d => if p d = true then g a d else a) acc)
  | [], _, acc, e, hI, hw => ⟨e, rfl, hw, hI⟩
  | d :: ds, h, acc, e, hI, hw => by
    obtain ⟨e1, e2, h1, h2, h3, h4⟩ := h d List.mem_cons_self
    have ih := gath I g p ds fun x hx => h x (List.mem_cons_of_mem _ hx)
    have hs : stT (t d) () (wipeE e vs) = .ok () e1 := by rw [hw]; simp [h1]
    have hw0 : ∀ f : Unit → M α, bd (fun e => Out.ok () (wipeE e vs)) f e = f () (wipeE e vs) := fun f => rfl
    rw [List.foldl_cons]
    unfold compG
    rw [hw0, bd_ok hs, bd_ok h2]
    cases hp : p d with
    | false =>
      obtain ⟨e', q1, q2, q3⟩ := ih acc e2 hI h3
      exact ⟨e', q1, q2, q3⟩
    | true =>
      obtain ⟨e3, r1, r2, r3⟩ := h4 hp acc hI
      obtain ⟨e', q1, q2, q3⟩ := ih (g acc d) e3 r3 r2
      exact ⟨e', by rw [if_pos rfl, bd_ok r1]; exact q1, q2, q3⟩
theorem coE_ok {α : Type} {out : α → D} {a0 a : α} {vs : List Nat} {it : M (List D)} {t : Tg} {c : M Bool} {em : α → M α} {e e' : Sl} {ds : List D} (hit : it e = .ok ds e) (h : compG vs t c em ds a0 e = .ok a e') (hw : wipeE e' vs = wipeE e vs) : coE out a0 vs it t c em e = .ok (out a) e := by
  unfold coE
  rw [bd_ok hit]
  simp only [h, rest_same hw]
theorem wipe_in {e : Sl} {vs ve : List Nat} (h : ∀ i ∈ ve, i ∈ vs) : wipeE (wipeE e ve) vs = wipeE e vs := by
  apply List.ext_getElem?
  intro j
  rw [wipe_get, wipe_get, wipe_get, wipe_len]
  by_cases hj : j ∈ vs
  · by_cases hl : j < e.length
    · rw [if_pos ⟨hj, hl⟩, if_pos ⟨hj, hl⟩]
    · rw [if_neg (by simp [hl]), if_neg (by simp [hl]), if_neg (by simp [hl])]
  · have : j ∉ ve := fun z => hj (h j z)
    rw [if_neg (by simp [hj]), if_neg (by simp [this]), if_neg (by simp [hj])]
end Cr

end
section
/-! Sq: demands that are spoilt; no program in sight. -/
namespace G
open Cr
theorem cut_last {α : Type} (xs : List α) : cutD xs (some (-1)) none = xs.drop (xs.length - 1) := by
  unfold cutD sIx
  simp only []
  rw [if_pos (by omega), show (-1 + (xs.length : Int)).toNat = xs.length - 1 by omega, List.take_of_length_le (by simp)]
theorem cut_from1 {α : Type} (xs : List α) : cutD xs (some 1) none = xs.drop 1 := cut_from xs 1
theorem cut_from2 {α : Type} (xs : List α) : cutD xs (some 2) none = xs.drop 2 := cut_from xs 2
/-- accepted sets at which the walk stops, behind anything -/
def StopA (n : Nat) (ts l : List D) : Prop := ∀ bf, ∃ r, foldR (acc1 n ts) bf l = .inr r
section
variable {n : Nat} {ts l : List D}
theorem StopA.no (h : StopA n ts l) : accOk n ts (-1) l = false := by
  obtain ⟨r, hr⟩ := h (-1)
  unfold accOk
  simp only [hr]
theorem StopA.behind (h : StopA n ts l) (a : List D) : StopA n ts (a ++ l) := fun bf => by
  rw [foldR_app]
  cases foldR (acc1 n ts) bf a with
  | inl s => exact h s
  | inr r => exact ⟨r, rfl⟩
theorem StopA.ahead (h : StopA n ts l) (b : List D) : StopA n ts (l ++ b) := fun bf => by
  obtain ⟨r, hr⟩ := h bf
  rw [foldR_app, hr]
  exact ⟨r, rfl⟩
theorem stopA_one {d : D} (h : ∀ bf, acc1 n ts bf d = .inr (.bl false)) : StopA n ts [d] := fun bf => ⟨.bl false, by unfold foldR; rw [h bf]⟩
theorem stopA_out {b : Int} (h : ¬ (0 ≤ b ∧ b ≤ 2 ^ n - 1)) : StopA n ts [.int b] := stopA_one fun bf => by simp [acc1, accB, h]
theorem stopA_two {b c : Int} (h : c ≤ b) : StopA n ts [.int b, .int c] := fun bf => by
  unfold foldR
  cases e : acc1 n ts bf (.int b) with
  | inr r => exact ⟨r, rfl⟩
  | inl s =>
    have hs : s = b := by
      have e : (if accB n ts bf b = true then (.inl b : Int ⊕ D) else .inr (.bl false)) = .inl s := e
      split at e
      · injection e with e; exact e.symm
      · cases e
    subst hs
    unfold foldR
    have : acc1 n ts s (.int c) = .inr (.bl false) := by simp [acc1, accB, show ¬ s < c by omega]
    simp only [this]
    exact ⟨_, rfl⟩
theorem stopA_led {b : Int} {a : Nat} (ha : a < n) (hb : hasB b a = true) (ht : negD (ts.getD a .non) = true) : StopA n ts [.int b] := stopA_one fun bf => by
  have : (List.range n).all (fun a => !(hasB b a && negD (ts.getD a .non))) = false := List.all_eq_false.mpr ⟨a, List.mem_range.mpr ha, by rw [hb, ht]; decide⟩
  have h2 : accB n ts bf b = false := by unfold accB; rw [this, Bool.and_false, Bool.and_false]
  show (if accB n ts bf b = true then (.inl b : Int ⊕ D) else .inr (.bl false)) = _
  rw [h2]
  rfl
end
/-- what may not stand for the accepted sets -/
def NoSets (n : Nat) (x : D) : Prop := nds x = true ∧ ∀ (ts : List D) (many : Int), isStateD (.tup [x, .tup ts]) n many = false
theorem noSets_of {n : Nat} {l : List D} (h1 : ndsL l = true) (h : ∀ ts, StopA n ts l) : NoSets n (.tup l) := ⟨by simp only [nds]; exact h1, fun ts many => by
  unfold isStateD
  simp only [(h ts).no, Bool.and_false]⟩
def setMenu (n : Nat) (s : List Int) : List D :=
  let l := s.map D.int
  [.tup (l ++ [.int (2 ^ n)]), .tup (.int (-1) :: l), .tup [.bl true], .tup [.non], .tup [.str "a"], .tup (l ++ l.drop (l.length - 1) ++ [.int (2 ^ n)]), .non, .int 0, .str "", .tup [.tup []]]
theorem ndsL_app : ∀ (a b : List D), ndsL (a ++ b) = (ndsL a && ndsL b)
  | [], b => by simp [ndsL]
  | x :: a, b => by simp only [List.cons_append, ndsL, ndsL_app a b, Bool.and_assoc]
theorem ndsL_of {l : List D} (h : ∀ d ∈ l, nds d = true) : ndsL l = true := by
  induction l with
  | nil => rfl
  | cons d l ih => simp only [ndsL, h d List.mem_cons_self, ih fun x hx => h x (List.mem_cons_of_mem _ hx), Bool.and_self]
theorem setMenu_no {n : Nat} {s : List Int} {x : D} (hx : x ∈ setMenu n s) : NoSets n x := by
  have h0 := nds_ints s
  have hd : ∀ j, ndsL ((s.map D.int).drop j) = true := fun j => by rw [← List.map_drop]; exact nds_ints _
  simp only [setMenu, List.mem_cons, List.not_mem_nil, or_false] at hx
  rcases hx with rfl | rfl | rfl | rfl | rfl | rfl | rfl | rfl | rfl | rfl
  · exact noSets_of (by rw [ndsL_app, h0]; rfl) fun ts => (stopA_out (by omega)).behind _
  · exact noSets_of (by simp only [ndsL, nds, h0, Bool.and_self]) fun ts => (stopA_out (b := -1) (by omega)).ahead _
  · exact noSets_of rfl fun ts => stopA_one fun bf => rfl
  · exact noSets_of rfl fun ts => stopA_one fun bf => rfl
  · exact noSets_of rfl fun ts => stopA_one fun bf => rfl
  · exact noSets_of (by rw [ndsL_app, ndsL_app, h0, hd]; rfl) fun ts => (stopA_out (by omega)).behind _
  · exact ⟨rfl, fun _ _ => rfl⟩
  · exact ⟨rfl, fun _ _ => rfl⟩
  · exact ⟨rfl, fun _ _ => rfl⟩
  · exact noSets_of rfl fun ts => stopA_one fun bf => rfl
theorem noSets_last {n : Nat} {s : List Int} (h : s ≠ []) : NoSets n (.tup (s.map D.int ++ (s.map D.int).drop (s.length - 1))) := by
  have hd : ∀ j, ndsL ((s.map D.int).drop j) = true := fun j => by rw [← List.map_drop]; exact nds_ints _
  obtain ⟨ini, l, rfl⟩ : ∃ ini l, s = ini ++ [l] := ⟨s.dropLast, s.getLast h, (List.dropLast_concat_getLast h).symm⟩
  refine noSets_of (by rw [ndsL_app, nds_ints, hd]; rfl) fun ts => ?_
  have e : (ini ++ [l]).map D.int ++ ((ini ++ [l]).map D.int).drop ((ini ++ [l]).length - 1) = ini.map D.int ++ [.int l, .int l] := by simp
  rw [e]
  exact (stopA_two (Int.le_refl l)).behind _
theorem noSets_first {n : Nat} {a : Int} {s : List Int} : NoSets n (.tup (.int a :: .int a :: s.map D.int)) :=
  noSets_of (by simp only [ndsL, nds, nds_ints, Bool.and_self]) fun ts => (stopA_two (Int.le_refl a)).ahead (s.map D.int)
theorem noSets_swap {n : Nat} {a b : Int} {s : List Int} (h : a < b) : NoSets n (.tup (.int b :: .int a :: s.map D.int)) :=
  noSets_of (by simp only [ndsL, nds, nds_ints, Bool.and_self]) fun ts => (stopA_two (Int.le_of_lt h)).ahead (s.map D.int)
/-! ### what may not stand for the next states -/
def NoAfter (n : Nat) (many : Int) (s : List Int) (x : D) : Prop := nds x = true ∧ isStateD (.tup [.tup (s.map .int), x]) n many = false
theorem noAfter_len {n : Nat} {many : Int} {s : List Int} {ts : List D} (h1 : ndsL ts = true) (h : ts.length ≠ n) : NoAfter n many s (.tup ts) := ⟨by simp only [nds]; exact h1, by
  unfold isStateD
  simp only [decide_eq_false h, Bool.false_and]⟩
theorem noAfter_bad {n : Nat} {many : Int} {s : List Int} {ts : List D} (h1 : ndsL ts = true) {x : D} (hx : x ∈ ts) (h : wi x (-1) (many - 1) = false) : NoAfter n many s (.tup ts) := ⟨by simp only [nds]; exact h1, by
  unfold isStateD
  have : ts.all (fun d => wi d (-1) (many - 1)) = false := List.all_eq_false.mpr ⟨x, hx, by simp [h]⟩
  simp only [this, Bool.false_and, Bool.and_false]⟩
theorem noAfter_led {n : Nat} {many : Int} {s : List Int} {ts : List D} (h1 : ndsL ts = true) {b : Int} (hb : b ∈ s) {a : Nat} (ha : a < n) (h : hasB b a = true) (ht : ts[a]? = some (.int (-1))) : NoAfter n many s (.tup ts) := ⟨by simp only [nds]; exact h1, by
  unfold isStateD
  obtain ⟨s1, s2, rfl⟩ := List.append_of_mem hb
  have : StopA n ts ((s1 ++ b :: s2).map .int) := by
    have e : (s1 ++ b :: s2).map D.int = s1.map D.int ++ ([.int b] ++ s2.map D.int) := by simp
    rw [e]
    exact ((stopA_led ha h (by rw [List.getD_eq_getElem?_getD, ht]; rfl)).ahead _).behind _
  simp only [this.no, Bool.and_false]⟩
/-! ### what may not stand for a demand -/
def NoDm (x : D) : Prop := nds x = true ∧ isDemD x = false
theorem noDm_state {n : Nat} {ss : List (List Int × List Int)} {k : Nat} (hk : k < ss.length) {st : D} (h1 : nds st = true) (h2 : isStateD st n ss.length = false) : NoDm (.tup [.int n, .tup ((ss.map stD).take k ++ [st] ++ (ss.map stD).drop (k + 1))]) := by
  have hl : ((ss.map stD).take k ++ [st] ++ (ss.map stD).drop (k + 1)).length = ss.length := by simp; omega
  have hn : ndsL ((ss.map stD).take k ++ [st] ++ (ss.map stD).drop (k + 1)) = true := by
    rw [ndsL_app, ndsL_app, ← List.map_take, ← List.map_drop, nds_sts, nds_sts]
    simp [ndsL, h1]
  refine ⟨by simp only [nds, ndsL, hn, Bool.and_self], ?_⟩
  unfold isDemD
  simp only [hl]
  have : ((ss.map stD).take k ++ [st] ++ (ss.map stD).drop (k + 1)).all (fun s => isStateD s (n : Int).toNat ss.length) = false := List.all_eq_false.mpr ⟨st, by simp, by simp [h2]⟩
  rw [this, Bool.and_false, Bool.and_false]
def dmOthers (n : Nat) (states : D) : List D := [.tup [.int 6, states], .tup [.int (-1), states], .tup [.non, states], .tup [.str "1", states], .tup [.int n, .tup []], .tup [.int n, .non], .tup [.int n], .tup [.int n, states, .int 0], .tup [], .non, .int 3, .str "demand", states]
theorem dmOthers_no {n : Nat} {ss : List (List Int × List Int)} {x : D} (hx : x ∈ dmOthers n (.tup (ss.map stD))) : NoDm x := by
  have h0 := nds_sts ss
  simp only [dmOthers, List.mem_cons, List.not_mem_nil, or_false] at hx
  rcases hx with rfl | rfl | rfl | rfl | rfl | rfl | rfl | rfl | rfl | rfl | rfl | rfl | rfl
  · exact ⟨by simp [nds, ndsL, h0], by simp [isDemD]⟩
  · exact ⟨by simp [nds, ndsL, h0], by simp [isDemD]⟩
  · exact ⟨by simp [nds, ndsL, h0], rfl⟩
  · exact ⟨by simp [nds, ndsL, h0], rfl⟩
  · exact ⟨rfl, by simp [isDemD]⟩
  · exact ⟨rfl, rfl⟩
  · exact ⟨rfl, rfl⟩
  · exact ⟨by simp [nds, ndsL, h0], rfl⟩
  · exact ⟨rfl, rfl⟩
  · exact ⟨rfl, rfl⟩
  · exact ⟨rfl, rfl⟩
  · exact ⟨rfl, rfl⟩
  · refine ⟨by simp [nds, h0], ?_⟩
    cases ss with
    | nil => rfl
    | cons r rs => rfl
end G
namespace G
open Cr
theorem up_len : ∀ (l : List Int) (lo hi : Int), l.Pairwise (· < ·) → (∀ b ∈ l, lo ≤ b ∧ b < hi) → (l.length : Int) ≤ max (hi - lo) 0
  | [], lo, hi, _, _ => by simp; omega
  | a :: l, lo, hi, h, hb => by
    have h' := List.pairwise_cons.mp h
    have ih := up_len l (a + 1) hi h'.2 fun b hb' => ⟨by have := h'.1 b hb'; omega, (hb b (List.mem_cons_of_mem _ hb')).2⟩
    have := hb a List.mem_cons_self
    simp only [List.length_cons]
    omega
theorem sets_len {n many : Nat} {p : List Int × List Int} (hn : n ≤ 5) (h : OkSt n many p) : p.1.length ≤ 32 := by
  have := up_len p.1 0 (2 ^ n) h.up h.set
  have hp : (2 : Int) ^ n ≤ 32 := by
    have : n = 0 ∨ n = 1 ∨ n = 2 ∨ n = 3 ∨ n = 4 ∨ n = 5 := by omega
    rcases this with rfl | rfl | rfl | rfl | rfl | rfl <;> decide
  omega
theorem nds_range {l : List D} {a b : Nat} {x : D} (h : ndsL l = true) (hx : nds x = true) : ndsL (l.take a ++ [x] ++ l.drop b) = true := by
  have ht : ∀ j, ndsL (l.take j) = true := fun j => ndsL_of fun d hd => nds_mem h (List.mem_of_mem_take hd)
  have hd : ∀ j, ndsL (l.drop j) = true := fun j => ndsL_of fun d hd => nds_mem h (List.mem_of_mem_drop hd)
  rw [ndsL_app, ndsL_app, ht, hd]
  simp [ndsL, hx]
end G

end
section
/-! Lm: where the words of a machine lead; no program in sight. -/
namespace G
open Cr
/-- a list without equal ones, grown -/
def addU (L : List Int) (n : Int) : List Int := if n ∈ L then L else L ++ [n]
theorem mem_addU {L : List Int} {n z : Int} : z ∈ addU L n ↔ z ∈ L ∨ z = n := by
  unfold addU
  split
  · rename_i h
    exact ⟨.inl, fun q => q.elim id fun q => q ▸ h⟩
  · simp
theorem nd_addU {L : List Int} {n : Int} (h : L.Nodup) : (addU L n).Nodup := by
  unfold addU
  split
  · exact h
  · rename_i hn
    rw [List.nodup_append]
    exact ⟨h, by simp, by rintro x hx y hy rfl; simp at hy; exact hn (hy ▸ hx)⟩
def entL (L : List Int) : Ents := L.map fun n => (.int n, .bl true)
theorem any_ent (L : List Int) (n : Int) : ((entL L).any fun p => keyIs n p.1) = decide (n ∈ L) := by
  induction L with
  | nil => rfl
  | cons x L ih =>
    unfold entL at ih ⊢
    rw [List.map_cons, List.any_cons, ih]
    by_cases h : x = n
    · subst h; simp [keyIs]
    · have h' : ¬ n = x := fun z => h z.symm
      simp [keyIs, h, h']
theorem put_ent (L : List Int) (n : Int) : putE (entL L) n (.bl true) = entL (addU L n) := by
  unfold putE addU
  rw [any_ent]
  by_cases h : n ∈ L
  · rw [if_pos (decide_eq_true h), if_pos h]
    unfold entL
    rw [List.map_map]
    refine List.map_congr_left fun x _ => ?_
    simp only [Function.comp]
    split <;> rfl
  · rw [if_neg (by simpa using h), if_neg h]
    simp [entL]
theorem ent_len (L : List Int) : (entL L).length = L.length := by simp [entL]
theorem isort_lt' {l : List Int} (h : l.Nodup) : (isort l).Pairwise (· < ·) := by
  have h1 := isort_pw l
  have h2 : (isort l).Nodup := (isort_perm l).nodup_iff.mpr h
  exact (List.Pairwise.and h1 h2).imp fun {a b} ⟨x, y⟩ => by omega
theorem nd_len {L : List Int} {n : Nat} (h : L.Nodup) (hb : ∀ x ∈ L, 0 ≤ x ∧ x < n) : L.length ≤ n := by
  have h1 := up_len (isort L) 0 n (isort_lt' h) fun b hb' => hb b ((isort_perm L).mem_iff.mp hb')
  rw [(isort_perm L).length_eq] at h1
  omega
/-! ### one letter -/
abbrev Rows := List (List (Int × Int))
def rowAt (rs : Rows) (p : Int) : List (Int × Int) := rs.getD p.toNat []
/-- the states behind one state are put to the others -/
def stepIn (row : List (Int × Int)) (a : Int) (L : List Int) : List Int := row.foldl (fun L e => if e.1 = a then addU L e.2 else L) L
def stepAll (rs : Rows) (here : List Int) (a : Int) : List Int := here.foldl (fun L p => stepIn (rowAt rs p) a L) []
/-- .. as the law says -/
def stepM (rs : Rows) (here : List Int) (a : Int) : List Int := ((List.range rs.length).filter fun (q : Nat) => here.any fun p => decide ((a, (q : Int)) ∈ rowAt rs p)).map fun (q : Nat) => (q : Int)
theorem stepIn_mem (a : Int) : ∀ (row : List (Int × Int)) (L : List Int) (z : Int), z ∈ stepIn row a L ↔ z ∈ L ∨ (a, z) ∈ row
  | [], L, z => by simp [stepIn]
  | e :: row, L, z => by
    have ih := stepIn_mem a row (if e.1 = a then addU L e.2 else L) z
    unfold stepIn at ih ⊢
    rw [List.foldl_cons, ih, List.mem_cons]
    by_cases h : e.1 = a
    · rw [if_pos h, mem_addU]
      have : (a, z) = e ↔ z = e.2 := ⟨fun q => by rw [← q], fun q => by rw [q, ← h]⟩
      rw [this]
      constructor
      · rintro ((h | h) | h) <;> simp [h]
      · rintro (h | h | h) <;> simp [h]
    · rw [if_neg h]
      have : ¬ (a, z) = e := fun q => h (by rw [← q])
      simp [this]
theorem stepIn_nd (a : Int) : ∀ (row : List (Int × Int)) (L : List Int), L.Nodup → (stepIn row a L).Nodup
  | [], L, h => h
  | e :: row, L, h => by
    have ih := stepIn_nd a row (if e.1 = a then addU L e.2 else L) (by split; exact nd_addU h; exact h)
    unfold stepIn at ih ⊢
    rw [List.foldl_cons]
    exact ih
theorem stepAll_mem (rs : Rows) (a z : Int) : ∀ (here L : List Int), z ∈ here.foldl (fun L p => stepIn (rowAt rs p) a L) L ↔ z ∈ L ∨ ∃ p ∈ here, (a, z) ∈ rowAt rs p
  | [], L => by simp
  | p :: here, L => by
    rw [List.foldl_cons, stepAll_mem rs a z here, stepIn_mem]
    simp only [List.mem_cons, exists_eq_or_imp, or_assoc]
theorem stepAll_nd (rs : Rows) (a : Int) : ∀ (here L : List Int), L.Nodup → (here.foldl (fun L p => stepIn (rowAt rs p) a L) L).Nodup
  | [], L, h => h
  | p :: here, L, h => by
    rw [List.foldl_cons]
    exact stepAll_nd rs a here _ (stepIn_nd a _ _ h)
theorem rowAt_to {n : Nat} {rs : Rows} (ok : OkMc n rs) {p : Int} {e : Int × Int} (h : e ∈ rowAt rs p) : 0 ≤ e.2 ∧ e.2 < rs.length := by
  unfold rowAt at h
  rw [List.getD_eq_getElem?_getD] at h
  cases hr : rs[p.toNat]? with
  | none => rw [hr] at h; simp at h
  | some r =>
    rw [hr] at h
    exact (ok.row r (List.mem_of_getElem? hr)).to e h
theorem stepM_in (rs : Rows) (here : List Int) (a : Int) : ∀ z ∈ stepM rs here a, 0 ≤ z ∧ z < rs.length := fun z hz => by
  obtain ⟨q, hq, rfl⟩ := List.mem_map.mp hz
  have := List.mem_range.mp (List.mem_filter.mp hq).1
  omega
theorem stepM_pw (rs : Rows) (here : List Int) (a : Int) : (stepM rs here a).Pairwise (· < ·) := by
  unfold stepM
  rw [List.pairwise_map]
  exact (List.pairwise_lt_range.filter _).imp fun h => by omega
theorem sorted_step {n : Nat} {rs : Rows} (ok : OkMc n rs) (here : List Int) (a : Int) : isort (stepAll rs here a) = stepM rs here a := by
  refine pw_lt_eq (fun z => ?_) (isort_lt' (stepAll_nd rs a here [] .nil)) (stepM_pw rs here a)
  rw [(isort_perm _).mem_iff, stepAll, stepAll_mem]
  constructor
  · rintro (h | ⟨p, hp, h⟩)
    · cases h
    · obtain ⟨z0, z1⟩ := rowAt_to ok h
      obtain ⟨q, rfl⟩ := Int.eq_ofNat_of_zero_le z0
      have hq : q < rs.length := by have := z1; simp only at this; omega
      exact List.mem_map.mpr ⟨q, List.mem_filter.mpr ⟨List.mem_range.mpr hq, List.any_eq_true.mpr ⟨p, hp, decide_eq_true h⟩⟩, rfl⟩
  · intro h
    obtain ⟨q, hq, rfl⟩ := List.mem_map.mp h
    obtain ⟨p, hp, h⟩ := List.any_eq_true.mp (List.mem_filter.mp hq).2
    exact .inr ⟨p, hp, of_decide_eq_true h⟩
/-- where a word leads -/
def wordM (rs : Rows) (w : List Int) : List Int := w.foldl (stepM rs) [0]
theorem wordM_in {n : Nat} {rs : Rows} (ok : OkMc n rs) (w : List Int) : ∀ z ∈ wordM rs w, 0 ≤ z ∧ z < rs.length := by
  have key : ∀ (w L : List Int), (∀ z ∈ L, 0 ≤ z ∧ z < (rs.length : Int)) → ∀ z ∈ w.foldl (stepM rs) L, 0 ≤ z ∧ z < rs.length := by
    intro w
    induction w with
    | nil => intro L h; exact h
    | cons a w ih => intro L _; exact ih _ (stepM_in rs L a)
  have := ok.l1
  exact key w [0] fun z hz => by rw [List.mem_singleton.mp hz]; omega
theorem wordM_snoc (rs : Rows) (w : List Int) (a : Int) : wordM rs (w ++ [a]) = stepM rs (wordM rs w) a := by unfold wordM; rw [List.foldl_append]; rfl
/-- the letters of a state's edges -/
def offP (row : List (Int × Int)) (a : Nat) : Bool := row.any fun e => decide (e.1 = (a : Int))
theorem offP_in (row : List (Int × Int)) : inI (row.map (·.1)) = offP row := by
  funext a
  unfold inI offP
  rw [Bool.eq_iff_iff, decide_eq_true_eq, List.mem_map, List.any_eq_true]
  exact ⟨fun ⟨e, h1, h2⟩ => ⟨e, h1, decide_eq_true h2⟩, fun ⟨e, h1, h2⟩ => ⟨e, h1, of_decide_eq_true h2⟩⟩
theorem offP_out {n many : Nat} {row : List (Int × Int)} (h : OkRow n many row) (a : Nat) (ha : n ≤ a) : offP row a = false := by
  unfold offP
  rw [List.any_eq_false]
  intro e he
  have := h.let_ e he
  simp only [decide_eq_true_eq]
  omega
end G

end
section
/-! Ho: what falls, ladders, hollow states; no program in sight. -/
namespace G
open Cr
abbrev Stt := List Int × List Int
def letB (n : Nat) (b : Int) : List Nat := (List.range n).filter fun a => hasB b a
def nxI (p : Stt) (a : Nat) : Int := p.2.getD a (-1)
/-- set b falls in p under S -/
def falB (n : Nat) (p : Stt) (b : Int) (S : List Int) : Bool := (letB n b).any fun a => decide (nxI p a ∈ S)
def allB (n : Nat) (p : Stt) (S : List Int) : Bool := p.1.all fun b => falB n p b S
def stAt (ss : List Stt) (q : Int) : Stt := ss.getD q.toNat ([], [])
def isLad (n : Nat) (ss : List Stt) : List Int → List Int → Bool
  | _, [] => true
  | pre, q :: r => decide (0 ≤ q ∧ q < ss.length) && (!decide (q ∈ pre) && (allB n (stAt ss q) pre && isLad n ss (pre ++ [q]) r))
structure Full (n : Nat) (ss : List Stt) (l : List Int) : Prop where
  lad : isLad n ss [] l = true
  cls : ∀ q : Int, 0 ≤ q → q < ss.length → allB n (stAt ss q) l = true → q ∈ l
section
variable {n : Nat} {ss : List Stt} {p : Stt} {b : Int}
theorem falB_mono {S S' : List Int} (h : ∀ x ∈ S, x ∈ S') (f : falB n p b S = true) : falB n p b S' = true := by
  unfold falB at f ⊢
  rw [List.any_eq_true] at f ⊢
  obtain ⟨a, h1, h2⟩ := f
  exact ⟨a, h1, by rw [decide_eq_true_eq] at h2 ⊢; exact h _ h2⟩
theorem allB_mono {S S' : List Int} (h : ∀ x ∈ S, x ∈ S') (f : allB n p S = true) : allB n p S' = true := by
  unfold allB at f ⊢
  rw [List.all_eq_true] at f ⊢
  exact fun b hb => falB_mono h (f b hb)
theorem falB_ext {S S' : List Int} (h : ∀ x, x ∈ S ↔ x ∈ S') : falB n p b S = falB n p b S' := by
  rw [Bool.eq_iff_iff]
  exact ⟨falB_mono fun x => (h x).mp, falB_mono fun x => (h x).mpr⟩
theorem allB_ext {S S' : List Int} (h : ∀ x, x ∈ S ↔ x ∈ S') : allB n p S = allB n p S' := by
  rw [Bool.eq_iff_iff]
  exact ⟨allB_mono fun x => (h x).mp, allB_mono fun x => (h x).mpr⟩
theorem lad_cons {pre r : List Int} {q : Int} : isLad n ss pre (q :: r) = true ↔ (0 ≤ q ∧ q < ss.length) ∧ q ∉ pre ∧ allB n (stAt ss q) pre = true ∧ isLad n ss (pre ++ [q]) r = true := by
  rw [show isLad n ss pre (q :: r) = (decide (0 ≤ q ∧ q < ss.length) && (!decide (q ∈ pre) && (allB n (stAt ss q) pre && isLad n ss (pre ++ [q]) r))) from rfl]
  simp only [Bool.and_eq_true, decide_eq_true_eq, Bool.not_eq_true', decide_eq_false_iff_not]
theorem lad_app : ∀ (l r pre : List Int), isLad n ss pre (l ++ r) = (isLad n ss pre l && isLad n ss (pre ++ l) r)
  | [], r, pre => by simp [isLad]
  | q :: l, r, pre => by
    simp only [List.cons_append, isLad, lad_app l r (pre ++ [q]), List.append_assoc, List.cons_append, List.nil_append, Bool.and_assoc]
theorem lad_snoc {l : List Int} {q : Int} (h : isLad n ss [] l = true) (h1 : 0 ≤ q ∧ q < ss.length) (h2 : q ∉ l) (h3 : allB n (stAt ss q) l = true) : isLad n ss [] (l ++ [q]) = true := by
  rw [lad_app, h, Bool.true_and, List.nil_append, lad_cons]
  exact ⟨h1, h2, h3, rfl⟩
theorem lad_in : ∀ (l pre : List Int), isLad n ss pre l = true → ∀ q ∈ l, (0 ≤ q ∧ q < ss.length) ∧ q ∉ pre
  | q :: l, pre, h, x, hx => by
    obtain ⟨h1, h2, _, h4⟩ := lad_cons.mp h
    rcases List.mem_cons.mp hx with e | e
    · rw [e]; exact ⟨h1, h2⟩
    · obtain ⟨k1, k2⟩ := lad_in l (pre ++ [q]) h4 x e
      exact ⟨k1, fun z => k2 (List.mem_append_left _ z)⟩
theorem lad_nd : ∀ (l pre : List Int), isLad n ss pre l = true → l.Nodup
  | [], _, _ => List.nodup_nil
  | q :: l, pre, h => by
    obtain ⟨_, _, _, h4⟩ := lad_cons.mp h
    exact List.nodup_cons.mpr ⟨fun z => (lad_in l _ h4 q z).2 (by simp), lad_nd l _ h4⟩
theorem lad_sub {C : List Int} (hc : ∀ q : Int, 0 ≤ q → q < ss.length → allB n (stAt ss q) C = true → q ∈ C) : ∀ (l pre : List Int), (∀ x ∈ pre, x ∈ C) → isLad n ss pre l = true → ∀ q ∈ l, q ∈ C
  | q :: l, pre, hp, h, x, hx => by
    obtain ⟨h1, _, h3, h4⟩ := lad_cons.mp h
    have hq : q ∈ C := hc q h1.1 h1.2 (allB_mono hp h3)
    rcases List.mem_cons.mp hx with e | e
    · rw [e]; exact hq
    · exact lad_sub hc l (pre ++ [q]) (fun y hy => (List.mem_append.mp hy).elim (hp y) fun z => by rw [List.mem_singleton.mp z]; exact hq) h4 x e
theorem Full.iff {l l' : List Int} (h : Full n ss l) (h' : Full n ss l') (q : Int) : q ∈ l ↔ q ∈ l' :=
  ⟨lad_sub h'.cls l [] (fun x hx => by cases hx) h.lad q, lad_sub h.cls l' [] (fun x hx => by cases hx) h'.lad q⟩
theorem Full.perm {l l' : List Int} (h : Full n ss l) (h' : Full n ss l') : l.Perm l' := (List.perm_ext_iff_of_nodup (lad_nd _ _ h.lad) (lad_nd _ _ h'.lad)).mpr (h.iff h')
theorem isort_perm_eq {l l' : List Int} (h : l.Perm l') : isort l = isort l' := pw_le_eq ((isort_perm l).trans (h.trans (isort_perm l').symm)) (isort_pw l) (isort_pw l')
theorem Full.len {l : List Int} (h : Full n ss l) : l.length ≤ ss.length := nd_len (lad_nd _ _ h.lad) fun x hx => (lad_in _ _ h.lad x hx).1
/-- one that may come next -/
theorem lad_next {line : List Int} : ∀ (l pre : List Int), isLad n ss pre l = true → (∀ x ∈ pre, x ∈ line) → (∃ q ∈ l, q ∉ line) → ∃ q ∈ l, q ∉ line ∧ allB n (stAt ss q) line = true
  | q :: l, pre, h, hp, hx => by
    obtain ⟨h1, _, h3, h4⟩ := lad_cons.mp h
    by_cases e : q ∈ line
    · obtain ⟨x, hx, hn⟩ := hx
      have hx' : x ∈ l := (List.mem_cons.mp hx).resolve_left fun z => hn (z ▸ e)
      obtain ⟨y, k1, k2⟩ := lad_next l (pre ++ [q]) h4 (fun y hy => (List.mem_append.mp hy).elim (hp y) fun z => by rw [List.mem_singleton.mp z]; exact e) ⟨x, hx', hn⟩
      exact ⟨y, List.mem_cons_of_mem _ k1, k2⟩
    · exact ⟨q, List.mem_cons_self, e, allB_mono hp h3⟩
end
end G
namespace G
open Cr
theorem allB_nil {n : Nat} {p : Stt} {S : List Int} : decide (p.1.filter (fun b => !falB n p b S) = []) = allB n p S := by
  rw [Bool.eq_iff_iff, decide_eq_true_eq, allB, List.filter_eq_nil_iff, List.all_eq_true]
  exact ⟨fun h b hb => by have := h b hb; simpa using this, fun h b hb => by simp [h b hb]⟩
theorem nats_ints (L : List Nat) : (L.map fun (a : Nat) => D.int a) = (L.map fun (a : Nat) => (a : Int)).map D.int := by rw [List.map_map]; rfl
theorem stAt_get {ss : List Stt} {q : Nat} (h : q < ss.length) : ss[q]? = some (stAt ss q) := by
  unfold stAt
  rw [Int.toNat_natCast, List.getD_eq_getElem?_getD, List.getElem?_eq_getElem h]; rfl
theorem stAt_mem {ss : List Stt} {q : Nat} (h : q < ss.length) : stAt ss q ∈ ss := List.mem_of_getElem? (stAt_get h)
theorem stAt_data {n : Nat} {ss : List Stt} {q : Nat} (h : q < ss.length) : atD (ss.map stD) (q : Int) = some (stD (stAt ss q)) := by rw [at_nat, List.getElem?_map, stAt_get h]; rfl
/-- all states, each once -/
theorem nd_all {L : List Int} {n : Nat} (h : L.Nodup) (hb : ∀ x ∈ L, 0 ≤ x ∧ x < n) (hl : n ≤ L.length) : ∀ q : Int, 0 ≤ q → q < n → q ∈ L := by
  intro q h0 h1
  apply Classical.byContradiction
  intro hn
  have := nd_len (L := q :: L) (n := n) (List.nodup_cons.mpr ⟨hn, h⟩) (fun x hx => by
    rcases List.mem_cons.mp hx with e | e
    · rw [e]; exact ⟨h0, h1⟩
    · exact hb x e)
  simp only [List.length_cons] at this
  omega
end G

end
section
/-! Evu: the equations of Cu; while. -/
namespace Cr
open PySem (Str)
@[simp] theorem s_enE (m : M D) (e : Sl) : enE m e = (bd m fun d => opt ((items d).map enumD)) e := (rfl)
@[simp] theorem s_gHin (k : D) (ks : Ents) : gHin k (.dht ks) = if kyT k = true then some (.bl (getH ks k).isSome) else none := (rfl)
@[simp] theorem s_gHni (k : D) (ks : Ents) : gHni k (.dht ks) = if kyT k = true then some (.bl (!(getH ks k).isSome)) else none := (rfl)
@[simp] theorem s_gHix (k : D) (ks : Ents) : gHix (.dht ks) k = if kyT k = true then getH ks k else none := (rfl)
@[simp] theorem s_gDin (n : Int) (ks : Ents) : gDin (.int n) (.dct ks) = some (.bl (getE ks n).isSome) := (rfl)
@[simp] theorem s_gDni (n : Int) (ks : Ents) : gDni (.int n) (.dct ks) = some (.bl (!(getE ks n).isSome)) := (rfl)
@[simp] theorem s_gDix (n : Int) (ks : Ents) : gDix (.dct ks) (.int n) = getE ks n := (rfl)
@[simp] theorem s_putS (i : Nat) (k m : M D) (e : Sl) : putS i k m e = (bd m fun y => bd (rd i) fun _ => bd k fun kd => bd (rd i) fun d => match d, kd with
  | .dct ks, .int n => if ks.length < LIM then bd (wr i (.dct (putE ks n y))) fun _ => nx else badM
  | _, _ => badM) e := (rfl)
@[simp] theorem s_putHS (i : Nat) (k m : M D) (e : Sl) : putHS i k m e = (bd m fun y => bd (rd i) fun _ => bd k fun kd => bd (rd i) fun d => match d with
  | .dht ks => if kyT kd = true ∧ ks.length < LIM then bd (wr i (.dht (putH ks kd y))) fun _ => nx else badM
  | _ => badM) e := (rfl)
@[simp] theorem s_newD (e : Sl) : newD e = .ok (.dct []) e := (rfl)
@[simp] theorem s_newH (e : Sl) : newH e = .ok (.dht []) e := (rfl)
@[simp] theorem s_dispE (k v : M D) (e : Sl) : dispE k v e = (bd k fun kd => bd v fun vd => match kd with
  | .int n => pu (.dct [(.int n, vd)])
  | _ => badM) e := (rfl)
@[simp] theorem s_dispHE (k v : M D) (e : Sl) : dispHE k v e = (bd k fun kd => bd v fun vd => if kyT kd = true then pu (.dht [(kd, vd)]) else badM) e := (rfl)
@[simp] theorem s_bKeysH (ks : Ents) : bKeysH [.dht ks] = some (.lst (ks.map (·.1))) := (rfl)
@[simp] theorem s_newLs (it : M (List D)) (e : Sl) : newLs it e = (bd it fun ds => if ds.length ≤ 1000000 then pu (.own (ds.map fun _ => .lst [])) else badM) e := (rfl)
@[simp] theorem s_own2 (xs : List D) (j : Int) : own2 (.own xs) (.int j) = (Cr.ixN xs.length j).bind fun n => match xs[n]? with
    | some (.lst ys) => some (xs, n, ys)
    | _ => none := (rfl)
@[simp] theorem s_app2S (i : Nat) (k m : M D) (e : Sl) : app2S i k m e = (bd (rd i) fun d => bd (clr i) fun _ => bd k fun kd => bd (opt (own2 d kd)) fun q => bd m fun y => if q.2.2.length < LIM then bd (wr i (.own (q.1.set q.2.1 (.lst (q.2.2 ++ [y]))))) fun _ => nx else badM) e := (rfl)
@[simp] theorem s_unown (m : M D) (e : Sl) : unown m e = (bd m fun d => match d with
  | .own xs => pu (.lst xs)
  | _ => badM) e := (rfl)
@[simp] theorem s_augIxS (i : Nat) (g : D → D → Option D) (k m : M D) (e : Sl) : augIxS i g k m e = (bd (rd i) fun _ => bd k fun kd => bd (rd i) fun d0 => bd (opt (ixP d0 kd)) fun x => bd m fun y => bd (opt (g x y)) fun z => bd (rd i) fun d => bd (opt (setP d kd z)) fun d1 => bd (wr i d1) fun _ => nx) e := (rfl)
@[simp] theorem s_nlE (m : M D) (e : Sl) : nlE m e = (bd m fun d => if nolst d = true then pu d else badM) e := (rfl)
@[simp] theorem s_gRev (xs : List D) : gRev (.lst xs) = some (.lst xs.reverse) := (rfl)
@[simp] theorem s_opvd (m : M D) (e : Sl) : opv (.d m) e = m e := (rfl)
@[simp] theorem s_opvo (i : Nat) (e : Sl) : opv (.o i) e = rd i e := (rfl)
@[simp] theorem s_augS (i : Nat) (g : D → D → Option D) (m : M D) (e : Sl) : augS i g m e = (bd (rd i) fun x => bd m fun y => bd (opt (g x y)) fun z => stT (tgN i z) .nx) e := (rfl)
@[simp] theorem s_gAddI (i j : Int) : gAddI (.int i) (.int j) = some (.int (i + j)) := (rfl)
@[simp] theorem s_guardM (b : Bool) (e : Sl) : guardM b e = if b = true then .ok () e else .bad := (rfl)
mutual
theorem dEq_rp : ∀ (n : Nat) (x : D), rp n x = true → dEq x x = true
  | n, .non, _ | n, .bl _, _ | n, .int _, _ => by simp [dEq]
  | n + 1, .tup xs, h => by simp only [dEq]; exact dEqL_rp n xs (by simpa [rp] using h)
  | n + 1, .lst xs, h => by simp only [dEq]; exact dEqL_rp n xs (by simpa [rp] using h)
  | 0, .tup _, h | 0, .lst _, h => by simp [rp] at h
  | n, .str _, h | n, .dct _, h | n, .dht _, h | n, .own _, h | n, .ins _ _, h => by cases n <;> simp [rp] at h
theorem dEqL_rp : ∀ (n : Nat) (xs : List D), rpL n xs = true → dEqL xs xs = true
  | _, [], _ => by simp [dEqL]
  | n, x :: xs, h => by
    simp only [rpL, Bool.and_eq_true] at h
    simp [dEqL, dEq_rp n x h.1, dEqL_rp n xs h.2]
end
/-- repr(a) against repr(b), the same data -/
theorem repr_same {ne : Bool} {a b : Opd} {e e1 e2 : Sl} {d : D} (ha : opv a e = .ok d e1) (hb : opv b e1 = .ok d e2) (h : rpOk d = true) : reprC ne a b e = .ok (.bl (!ne)) e2 := by
  unfold reprC
  rw [bd_ok ha, bd_ok (a := ()) (e1 := e1) (by simp [h]), bd_ok hb]
  unfold rpOk at h
  rw [Bool.and_eq_true] at h
  rw [if_pos (dEq_rp 60 d h.1)]
  rfl
theorem rp_ints (n : Nat) : ∀ (L : List Int), (∀ x ∈ L, x.natAbs < 10000000000) → rpL n (L.map .int) = true
  | [], _ => by simp [rpL]
  | x :: L, h => by
    have h1 := h x List.mem_cons_self
    have e : rp n (.int x) = true := by cases n <;> simp [rp, h1]
    simp [rpL, e, rp_ints n L fun y hy => h y (List.mem_cons_of_mem _ hy)]
theorem blk_ints : ∀ (L : List Int), blkL (L.map .int) = L.length
  | [] => by simp [blkL]
  | x :: L => by simp [blkL, blk', blk_ints L]; omega
theorem rpOk_ints {L : List Int} (h : ∀ x ∈ L, x.natAbs < 10000000000) (hl : L.length ≤ 1000000) : rpOk (.lst (L.map .int)) = true := by
  unfold rpOk
  rw [show rp 60 (.lst (L.map .int)) = rpL 59 (L.map .int) from by simp [rp], rp_ints 59 L h, show blk' (.lst (L.map .int)) = blkL (L.map .int) from by simp [blk'], blk_ints, Bool.true_and, decide_eq_true_eq]
  omega
theorem gNi_ints (x : Int) (L : List Int) : gNi (.int x) (.lst (L.map D.int)) = some (.bl (!decide (x ∈ L))) := by unfold gNi; rw [gIn_ints]
theorem gIn_intsT (x : Int) (L : List Int) : gIn (.int x) (.tup (L.map D.int)) = some (.bl (decide (x ∈ L))) := gIn_ints x L
/-! ### sorted({..}) of numbers -/
theorem in_addI {L : List Int} {n z : Int} : z ∈ addI L n ↔ z ∈ L ∨ z = n := by
  unfold addI
  split
  · rename_i h
    exact ⟨.inl, fun q => q.elim id fun q => q ▸ h⟩
  · simp
theorem len_addI (L : List Int) (n : Int) : (addI L n).length ≤ L.length + 1 := by
  unfold addI
  split <;> simp
theorem usort_ext {a b : List Int} (h : ∀ z, z ∈ a ↔ z ∈ b) : usort a = usort b := pw_lt_eq (fun z => by rw [usort_mem, usort_mem, h]) (usort_pw _) (usort_pw _)
theorem ss1 {vs : List Nat} {it : M (List D)} {t : Tg} {c : M Bool} {x : M D} {e : Sl} {ds : List D} {R : List Int} (p : D → Bool) (g : D → Int) (hit : it e = .ok ds e) (hl : ds.length < 50)
    (ht : ∀ d ∈ ds, ∃ e'', t d (wipeE e vs) = some e'' ∧ wipeE e'' vs = wipeE e vs ∧ c e'' = .ok (p d) e'' ∧ (p d = true → x e'' = .ok (.int (g d)) e'')) (hR : ∀ z, z ∈ R ↔ ∃ d ∈ ds, p d = true ∧ g d = z) :
    ssE vs it t c x e = .ok (.lst ((usort R).map .int)) e := by
  have key : ∀ (l : List D), (∀ d ∈ l, d ∈ ds) → ∀ (acc : List Int) (e' : Sl), acc.length + l.length < 50 → wipeE e' vs = wipeE e vs →
      ∃ acc' e2, compG vs t c (emI x) l acc e' = .ok acc' e2 ∧ wipeE e2 vs = wipeE e vs ∧ ∀ z, z ∈ acc' ↔ z ∈ acc ∨ ∃ d ∈ l, p d = true ∧ g d = z := by
    intro l
    induction l with
    | nil => intro _ acc e' _ hw; exact ⟨acc, e', rfl, hw, by simp⟩
    | cons d l ih =>
      intro hm acc e' hlen hw
      obtain ⟨e'', h1, h2, h3, h4⟩ := ht d (hm d List.mem_cons_self)
      have ih' := ih fun d' hd => hm d' (List.mem_cons_of_mem _ hd)
      have hs : stT (t d) () (wipeE e' vs) = .ok () e'' := by rw [hw]; simp [h1]
      have hw0 : ∀ f : Unit → M (List Int), bd (fun e => Out.ok () (wipeE e vs)) f e' = f () (wipeE e' vs) := fun f => rfl
      simp only [List.length_cons] at hlen
      unfold compG
      rw [hw0, bd_ok hs, bd_ok h3]
      cases hp : p d with
      | false =>
        obtain ⟨acc', e2, q1, q2, q3⟩ := ih' acc e'' (by omega) h2
        exact ⟨acc', e2, q1, q2, fun z => by rw [q3]; simp [hp]⟩
      | true =>
        have := len_addI acc (g d)
        obtain ⟨acc', e2, q1, q2, q3⟩ := ih' (addI acc (g d)) e'' (by omega) h2
        refine ⟨acc', e2, ?_, q2, fun z => ?_⟩
        · rw [if_pos rfl, bd_ok (a := addI acc (g d)) (e1 := e'')]
          · exact q1
          · unfold emI
            rw [bd_ok (h4 hp)]
            simp only []
            rw [if_pos (by omega)]
            rfl
        · rw [q3, in_addI]
          simp only [List.mem_cons, exists_eq_or_imp, hp, true_and]
          rw [eq_comm (a := z)]
          exact or_assoc
  obtain ⟨acc', e2, q1, q2, q3⟩ := key ds (fun _ h => h) [] e (by simpa using hl) rfl
  unfold ssE
  rw [coE_ok hit q1 q2]
  unfold outS
  rw [usort_ext (b := R) fun z => by rw [q3, hR]; simp]
/-! ### while -/
theorem while_wp {t : M Bool} {b : S} {Q : Fl → Sl → Prop} (I : Nat → Sl → Prop)
    (ht : ∀ k e, I k e → ∃ c e1, t e = .ok c e1 ∧ if c = true then WP (b e1) fun f e2 => match f with
      | .nx => ∃ k', k' < k ∧ I k' e2
      | .ct => ∃ k', k' < k ∧ I k' e2
      | .bk => Q .nx e2
      | .rt r => Q (.rt r) e2 else Q .nx e1) : ∀ (n m : Nat) (e : Sl), I m e → m < n → WP (whileN n t b e) Q
  | 0, m, e, _, h => absurd h (Nat.not_lt_zero _)
  | n + 1, m, e, hI, hm => by
    obtain ⟨c, e1, q1, q2⟩ := ht m e hI
    unfold whileN
    cases c with
    | false =>
      rw [if_neg (by decide)] at q2
      exact ⟨.nx, e1, by rw [bd_ok q1]; rfl, q2⟩
    | true =>
      rw [if_pos rfl] at q2
      obtain ⟨f, e2, q3, q4⟩ := q2
      cases f with
      | nx =>
        obtain ⟨k, hk, hi⟩ := q4
        obtain ⟨a, e3, r1, r2⟩ := while_wp I ht n k e2 hi (by omega)
        exact ⟨a, e3, by rw [bd_ok q1, if_pos rfl, bd_ok q3]; exact r1, r2⟩
      | ct =>
        obtain ⟨k, hk, hi⟩ := q4
        obtain ⟨a, e3, r1, r2⟩ := while_wp I ht n k e2 hi (by omega)
        exact ⟨a, e3, by rw [bd_ok q1, if_pos rfl, bd_ok q3]; exact r1, r2⟩
      | bk => exact ⟨.nx, e2, by rw [bd_ok q1, if_pos rfl, bd_ok q3]; rfl, q4⟩
      | rt r => exact ⟨.rt r, e2, by rw [bd_ok q1, if_pos rfl, bd_ok q3]; rfl, q4⟩
end Cr

end
section
/-! Hu: which sets lead where; counting down the sets that stand; no program in sight. -/
namespace G
open Cr
/-- the k-th set of p leads to t -/
def Ld (n : Nat) (p : Stt) (k : Nat) (t : Int) : Prop := ∃ a ∈ letB n (p.1.getD k 0), nxI p a = t
abbrev Uses := List (List (Int × Int))
/-- all pairs (state, index of a set) up to q, k, at each state to which they lead -/
def Us (n : Nat) (ss : List Stt) (q k : Nat) (us : Uses) : Prop := us.length = ss.length ∧ ∀ (t : Nat) (x : Int × Int), x ∈ us.getD t [] ↔ ∃ q' k' : Nat, x = ((q' : Int), (k' : Int)) ∧ q' < ss.length ∧ k' < (stAt ss q').1.length ∧ (q' < q ∨ (q' = q ∧ k' < k)) ∧ t < ss.length ∧ Ld n (stAt ss q') k' t
def usD (us : Uses) : D := .own (us.map fun l => .lst (l.map prD))
def usL (us : Uses) : D := .lst (us.map fun l => .lst (l.map prD))
/-! ### entries whose keys are pairs -/
def entP (l : List (Int × Int)) : Ents := l.map fun x => (prD x, .bl true)
theorem kyT_pr (x : Int × Int) : kyT (prD x) = true := by simp [kyT, prD, kyL, ky]
theorem any_entP (l : List (Int × Int)) (x : Int × Int) : ((entP l).any fun p => eqv p.1 (prD x)) = decide (x ∈ l) := by
  unfold entP
  rw [List.any_map]
  induction l with
  | nil => simp
  | cons y l ih =>
    simp only [List.any_cons, Function.comp, eqv_pr, List.mem_cons] at ih ⊢
    rw [ih]
    by_cases e : y = x
    · simp [e]
    · have : ¬ x = y := fun z => e z.symm
      simp [e, this]
theorem get_entP (l : List (Int × Int)) (x : Int × Int) : (getH (entP l) (prD x)).isSome = decide (x ∈ l) := by
  rw [← any_entP]
  unfold getH
  rw [Option.isSome_map, Bool.eq_iff_iff, List.find?_isSome, List.any_eq_true]
theorem put_entP {l : List (Int × Int)} {x : Int × Int} (h : x ∉ l) : putH (entP l) (prD x) (.bl true) = entP (l ++ [x]) := by
  unfold putH
  rw [any_entP, decide_eq_false h]
  simp [entP]
theorem len_entP (l : List (Int × Int)) : (entP l).length = l.length := by simp [entP]
/-! ### what stands -/
def cnt (f : List (Int × Int)) (q m : Nat) : Nat := ((List.range m).filter fun k => !decide (((q : Int), ((k : Nat) : Int)) ∈ f)).length
theorem cnt_zero {f : List (Int × Int)} {q m : Nat} : cnt f q m = 0 ↔ ∀ k, k < m → ((q : Int), (k : Int)) ∈ f := by
  unfold cnt
  rw [List.length_eq_zero_iff, List.filter_eq_nil_iff]
  constructor
  · intro h k hk
    have := h k (List.mem_range.mpr hk)
    simpa using this
  · intro h k hk
    simpa using h k (List.mem_range.mp hk)
theorem filter_drop1 {l : List Nat} (hn : l.Nodup) {p : Nat → Bool} {k : Nat} (hk : k ∈ l) (hp : p k = true) : (l.filter fun j => p j && !decide (j = k)).length + 1 = (l.filter p).length := by
  induction l with
  | nil => cases hk
  | cons a l ih =>
    have hn' := List.nodup_cons.mp hn
    by_cases e : a = k
    · subst e
      have : l.filter (fun j => p j && !decide (j = a)) = l.filter p := by
        apply List.filter_congr
        intro j hj
        have : ¬ j = a := fun z => hn'.1 (z ▸ hj)
        simp [this]
      rw [List.filter_cons_of_neg (by simp), List.filter_cons_of_pos hp, this]
      rfl
    · have hk' := (List.mem_cons.mp hk).resolve_left fun z => e z.symm
      have := ih hn'.2 hk'
      cases hpa : p a with
      | true => rw [List.filter_cons_of_pos (by simp [hpa, e]), List.filter_cons_of_pos hpa]; simp only [List.length_cons]; omega
      | false => rw [List.filter_cons_of_neg (by simp [hpa]), List.filter_cons_of_neg (by simp [hpa])]; exact this
theorem cnt_add {f : List (Int × Int)} {q k m : Nat} (hk : k < m) (hn : ((q : Int), (k : Int)) ∉ f) : cnt (f ++ [((q : Int), (k : Int))]) q m + 1 = cnt f q m := by
  unfold cnt
  have := filter_drop1 (l := List.range m) List.nodup_range (p := fun j => !decide (((q : Int), ((j : Nat) : Int)) ∈ f)) (k := k) (List.mem_range.mpr hk) (by simpa using hn)
  rw [← this]
  congr 2
  apply List.filter_congr
  intro j _
  rw [Bool.eq_iff_iff]
  simp only [Bool.and_eq_true, Bool.not_eq_true', decide_eq_false_iff_not, List.mem_append, List.mem_singleton, not_or, Prod.mk.injEq, true_and]
  exact ⟨fun ⟨a, b⟩ => ⟨a, fun z => b (by omega)⟩, fun ⟨a, b⟩ => ⟨a, fun z => b (by omega)⟩⟩
theorem cnt_other {f : List (Int × Int)} {q q' k m : Nat} (h : q' ≠ q) : cnt (f ++ [((q : Int), (k : Int))]) q' m = cnt f q' m := by
  unfold cnt
  congr 1
  apply List.filter_congr
  intro j _
  rw [Bool.eq_iff_iff]
  simp only [Bool.not_eq_true', decide_eq_false_iff_not, List.mem_append, List.mem_singleton, not_or, Prod.mk.injEq, not_and]
  exact ⟨fun a => a.1, fun a => ⟨a, fun z => absurd (by omega) h⟩⟩
theorem cnt_nil (q m : Nat) : cnt [] q m = m := by unfold cnt; rw [List.filter_eq_self.mpr (by simp), List.length_range]
/-! ### states without sets -/
theorem lad_empty {n : Nat} {ss : List Stt} : ∀ (l pre : List Int), (∀ q ∈ l, (0 ≤ q ∧ q < ss.length) ∧ (stAt ss q).1 = []) → l.Nodup → (∀ q ∈ l, q ∉ pre) → isLad n ss pre l = true
  | [], _, _, _, _ => rfl
  | q :: l, pre, h, hn, hp => by
    have hn' := List.nodup_cons.mp hn
    rw [lad_cons]
    refine ⟨(h q List.mem_cons_self).1, hp q List.mem_cons_self, by unfold allB; rw [(h q List.mem_cons_self).2]; rfl, ?_⟩
    exact lad_empty l _ (fun x hx => h x (List.mem_cons_of_mem _ hx)) hn'.2 fun x hx z => by
      rcases List.mem_append.mp z with z | z
      · exact hp x (List.mem_cons_of_mem _ hx) z
      · rw [List.mem_singleton.mp z] at hx; exact hn'.1 hx
/-- a set falls if it leads into S -/
theorem fal_of {n : Nat} {p : Stt} {k : Nat} {S : List Int} (hk : k < p.1.length) : falB n p (p.1.getD k 0) S = true ↔ ∃ t ∈ S, Ld n p k t := by
  unfold falB
  rw [List.any_eq_true]
  constructor
  · rintro ⟨a, h1, h2⟩
    exact ⟨nxI p a, by simpa using h2, a, h1, rfl⟩
  · rintro ⟨t, h1, a, h2, h3⟩
    exact ⟨a, h2, by rw [h3]; simpa using h1⟩
theorem allB_iff {n : Nat} {p : Stt} {S : List Int} : allB n p S = true ↔ ∀ k, k < p.1.length → ∃ t ∈ S, Ld n p k t := by
  unfold allB
  rw [List.all_eq_true]
  constructor
  · intro h k hk
    exact (fal_of hk).mp (h _ (by rw [List.getD_eq_getElem?_getD, List.getElem?_eq_getElem hk]; exact List.getElem_mem hk))
  · intro h b hb
    obtain ⟨k, hk, rfl⟩ := List.mem_iff_getElem.mp hb
    have := (fal_of (n := n) (S := S) hk).mpr (h k hk)
    rwa [List.getD_eq_getElem?_getD, List.getElem?_eq_getElem hk] at this
theorem ld_to {n many : Nat} {p : Stt} (h : OkSt n many p) {k : Nat} (hk : k < p.1.length) {t : Int} (l : Ld n p k t) : 0 ≤ t ∧ t < many := by
  obtain ⟨a, ha, rfl⟩ := l
  simp only [letB, List.mem_filter, List.mem_range] at ha
  have hb : p.1.getD k 0 ∈ p.1 := by rw [List.getD_eq_getElem?_getD, List.getElem?_eq_getElem hk]; exact List.getElem_mem hk
  have hl := h.len
  have e : p.2[a]? = some (nxI p a) := by
    unfold nxI
    rw [List.getD_eq_getElem?_getD, List.getElem?_eq_getElem (by omega)]; rfl
  exact ⟨h.led _ hb a ha.1 ha.2 _ e, (h.to _ (List.mem_of_getElem? e)).2⟩
/-- the state of the count -/
structure Cnt (n : Nat) (ss : List Stt) (found : List Int) (fallen : List (Int × Int)) (left : List Int) : Prop where
  lad : isLad n ss [] found = true
  ln : left.length = ss.length
  at_ : ∀ q : Nat, q < ss.length → left[q]? = some ((cnt fallen q (stAt ss q).1.length : Nat) : Int)
  in_ : ∀ q : Nat, q < ss.length → ((q : Int) ∈ found ↔ cnt fallen q (stAt ss q).1.length = 0)
  some_ : ∀ x ∈ fallen, ∃ q k : Nat, x = ((q : Int), (k : Int)) ∧ q < ss.length ∧ k < (stAt ss q).1.length ∧ ∃ t ∈ found, Ld n (stAt ss q) k t
section
variable {n : Nat} {ss : List Stt} {found : List Int} {fallen : List (Int × Int)} {left : List Int}
/-- one more set falls -/
theorem Cnt.step (h : Cnt n ss found fallen left) {q k : Nat} (hq : q < ss.length) (hk : k < (stAt ss q).1.length) (hn : ((q : Int), (k : Int)) ∉ fallen) {t : Int} (ht : t ∈ found) (hl : Ld n (stAt ss q) k t) :
    ∃ c : Nat, left[q]? = some ((c : Int) + 1) ∧ (c = 0 → Cnt n ss (found ++ [(q : Int)]) (fallen ++ [((q : Int), (k : Int))]) (left.set q (c : Int))) ∧ (c ≠ 0 → Cnt n ss found (fallen ++ [((q : Int), (k : Int))]) (left.set q (c : Int))) := by
  have e := cnt_add hk hn
  have hql : q < left.length := by rw [h.ln]; exact hq
  have at2 : ∀ q' : Nat, q' < ss.length → (left.set q ((cnt (fallen ++ [((q : Int), (k : Int))]) q (stAt ss q).1.length : Nat) : Int))[q']? = some ((cnt (fallen ++ [((q : Int), (k : Int))]) q' (stAt ss q').1.length : Nat) : Int) := fun q' hq' => by
    by_cases e' : q' = q
    · subst e'; rw [List.getElem?_set_self hql]
    · rw [List.getElem?_set_ne (Ne.symm e'), cnt_other e']; exact h.at_ q' hq'
  have so : ∀ S : List Int, (∀ x ∈ found, x ∈ S) → ∀ x ∈ fallen ++ [((q : Int), (k : Int))], ∃ q k : Nat, x = ((q : Int), (k : Int)) ∧ q < ss.length ∧ k < (stAt ss q).1.length ∧ ∃ t ∈ S, Ld n (stAt ss q) k t := fun S hS x hx => by
    rcases List.mem_append.mp hx with z | z
    · obtain ⟨a, b, c, d, e, t, f, g⟩ := h.some_ x z
      exact ⟨a, b, c, d, e, t, hS t f, g⟩
    · exact ⟨q, k, List.mem_singleton.mp z, hq, hk, t, hS t ht, hl⟩
  have hqn : (q : Int) ∉ found := fun z => by have := (h.in_ q hq).mp z; omega
  refine ⟨cnt (fallen ++ [((q : Int), (k : Int))]) q (stAt ss q).1.length, by rw [h.at_ q hq, ← e]; rfl, fun c0 => ⟨?_, by simp [h.ln], at2, fun q' hq' => ?_, so _ fun x hx => List.mem_append_left _ hx⟩, fun c0 => ⟨h.lad, by simp [h.ln], at2, fun q' hq' => ?_, so _ fun x hx => hx⟩⟩
  · refine lad_snoc h.lad ⟨by omega, by omega⟩ hqn (allB_iff.mpr fun j hj => ?_)
    have := cnt_zero.mp c0 j hj
    obtain ⟨a, b, e1, e2, e3, t', e4, e5⟩ := so found (fun x hx => hx) _ this
    simp only [Prod.mk.injEq] at e1
    have ea : a = q := by omega
    have eb : b = j := by omega
    subst ea eb
    exact ⟨t', e4, e5⟩
  · by_cases e' : q' = q
    · subst e'; simp [c0]
    · rw [cnt_other e']
      rw [← h.in_ q' hq']
      have : ¬ (q' : Int) = q := by omega
      simp [this]
  · by_cases e' : q' = q
    · subst e'; simp [c0, hqn]
    · rw [cnt_other e']; exact h.in_ q' hq'
/-- at the end -/
theorem Cnt.full (h : Cnt n ss found fallen left) (hf : ∀ q k : Nat, q < ss.length → k < (stAt ss q).1.length → (∃ t ∈ found, Ld n (stAt ss q) k t) → ((q : Int), (k : Int)) ∈ fallen) : Full n ss found :=
  ⟨h.lad, fun q h0 h1 h2 => by
    obtain ⟨q, rfl⟩ := Int.eq_ofNat_of_zero_le h0
    have hq : q < ss.length := by omega
    rw [h.in_ q hq, cnt_zero]
    exact fun k hk => hf q k hq hk (allB_iff.mp h2 k hk)⟩
end
theorem pow6' (n : Nat) (h : n < 6) : atD [D.int 1, .int 2, .int 4, .int 8, .int 16, .int 32] (n : Int) = some (.int ((2 ^ n : Nat) : Int)) := by
  rw [pow6 n h]
  congr 2
theorem loopO_nx {i : Nat} {t : Tg} {b : S} {xs : List D} {Q : Fl → Sl → Prop} (I : Nat → Sl → Prop) (hr : ∀ k e, I k e → e[i]? = some (some (.lst xs)))
    (hs : ∀ k d e, xs[k]? = some d → I k e → ∃ e1, t d e = some e1 ∧ WP (b e1) fun f e2 => f = .nx ∧ I (k + 1) e2) (hq : ∀ e, I xs.length e → Q .nx e) : ∀ (N k : Nat) (e : Sl), k ≤ xs.length → xs.length < k + N → I k e → WP (loopO i t b N k e) Q
  | 0, k, e, h1, h2, _ => by omega
  | N + 1, k, e, h1, h2, h => by
    have hrd : rd i e = .ok (.lst xs) e := by simp only [rd, hr k e h]
    by_cases hk : k < xs.length
    · obtain ⟨e1, ht, f, e2, hb, rfl, hI⟩ := hs k xs[k] e (List.getElem?_eq_getElem hk) h
      obtain ⟨f, e3, h3, h4⟩ := loopO_nx I hr hs hq N (k + 1) e2 hk (by omega) hI
      refine ⟨f, e3, ?_, h4⟩
      unfold loopO
      simp only [s_bd, hrd, List.getElem?_eq_getElem hk, s_stT, ht, hb]
      exact h3
    · have : k = xs.length := by omega
      subst this
      refine ⟨.nx, e, ?_, hq e h⟩
      unfold loopO
      simp only [s_bd, hrd]
      simp
end G

end
section
/-! Bf: products of machines, walked in the order in which pairs are found; no program in sight. -/
namespace G
open Cr
abbrev Pr := Int × Int
abbrev Tr := Int × Int × Int
def edM (A B : Rows) (p : Pr) : List Tr := (rowAt A p.1).flatMap fun e => ((rowAt B p.2).filter fun f => decide (e.1 = f.1)).map fun f => (e.1, e.2, f.2)
def tLt (p q : Tr) : Bool := if p.1 = q.1 then prLt p.2 q.2 else decide (p.1 < q.1)
def tLe (p q : Tr) : Bool := !tLt q p
def seM (A B : Rows) (p : Pr) : List Tr := (edM A B p).mergeSort tLe
def neD (t : Tr) : D := .tup [.int t.1, prD t.2]
def flD (t : Tr) : D := .tup [.int t.1, .int t.2.1, .int t.2.2]
theorem eqv_int (i j : Int) : eqv (.int i) (.int j) = decide (i = j) := by
  rw [eqv_ii]
  rw [Bool.eq_iff_iff]; simp
theorem lt_ne (p q : Tr) : ltD (neD p) (neD q) = tLt p q := by
  obtain ⟨a, x, y⟩ := p
  obtain ⟨b, u, v⟩ := q
  simp only [neD, ltD, ltL, eqv_int, eqv_pr, tLt, prLt, decide_eq_true_eq, Prod.mk.injEq]
  simp only [prD, ltD, ltL, eqv_int, decide_eq_true_eq]
  by_cases h1 : a = b
  · subst h1
    by_cases h2 : x = u
    · subst h2
      by_cases h3 : y = v
      · subst h3; simp
      · simp [h3]
    · simp [h2]
  · simp [h1]
theorem lt_fl (p q : Tr) : ltD (flD p) (flD q) = tLt p q := by
  obtain ⟨a, x, y⟩ := p
  obtain ⟨b, u, v⟩ := q
  simp only [flD, ltD, ltL, eqv_int, tLt, prLt, decide_eq_true_eq]
  by_cases h1 : a = b
  · subst h1
    by_cases h2 : x = u
    · subst h2
      by_cases h3 : y = v
      · subst h3; simp
      · simp [h3]
    · simp [h2]
  · simp [h1]
theorem sort_ne (L : List Tr) : (L.map neD).mergeSort leD = (L.mergeSort tLe).map neD := (List.map_mergeSort fun a _ b _ => by unfold leD tLe; rw [lt_ne]).symm
theorem sort_fl (L : List Tr) : (L.map flD).mergeSort leD = (L.mergeSort tLe).map flD := (List.map_mergeSort fun a _ b _ => by unfold leD tLe; rw [lt_fl]).symm
theorem shL_map {α : Type} (f : α → D) (n : Nat) (h : ∀ x, sh n (f x) = true) : ∀ L : List α, shL n (L.map f) = true
  | [] => by simp [shL]
  | x :: L => by simp [shL, h x, shL_map f n h L]
theorem bSortN_ne {L : List Tr} (h : L.length ≤ 1000000) : bSortN [.lst (L.map neD)] = some (.lst ((L.mergeSort tLe).map neD)) := by
  unfold bSortN
  simp only []
  rw [if_pos ⟨by rw [List.all_map]; exact List.all_eq_true.mpr fun _ _ => rfl, shL_map neD _ (fun t => by simp [neD, prD, DEP, sh, shL, sh_int]) L, fun x hx y hy => by
    obtain ⟨a, _, rfl⟩ := List.mem_map.mp hx
    obtain ⟨b, _, rfl⟩ := List.mem_map.mp hy
    simp [neD, prD, alkD, alkL], by simpa [LIM] using h⟩, sort_ne]
theorem bSortN_fl {L : List Tr} (h : L.length ≤ 1000000) : bSortN [.lst (L.map flD)] = some (.lst ((L.mergeSort tLe).map flD)) := by
  unfold bSortN
  simp only []
  rw [if_pos ⟨by rw [List.all_map]; exact List.all_eq_true.mpr fun _ _ => rfl, shL_map flD _ (fun t => by simp [flD, DEP, sh, shL, sh_int]) L, fun x hx y hy => by
    obtain ⟨a, _, rfl⟩ := List.mem_map.mp hx
    obtain ⟨b, _, rfl⟩ := List.mem_map.mp hy
    simp [flD, alkD, alkL], by simpa [LIM] using h⟩, sort_fl]
theorem se_perm (A B : Rows) (p : Pr) : (seM A B p).Perm (edM A B p) := List.mergeSort_perm _ _
theorem se_mem {A B : Rows} {p : Pr} {t : Tr} : t ∈ seM A B p ↔ t ∈ edM A B p := (se_perm A B p).mem_iff
theorem ed_mem {A B : Rows} {p : Pr} {t : Tr} : t ∈ edM A B p ↔ (t.1, t.2.1) ∈ rowAt A p.1 ∧ (t.1, t.2.2) ∈ rowAt B p.2 := by
  obtain ⟨a, x, y⟩ := t
  unfold edM
  simp only [List.mem_flatMap, List.mem_map, List.mem_filter, decide_eq_true_eq, Prod.mk.injEq]
  constructor
  · rintro ⟨⟨b, z⟩, h1, ⟨c, w⟩, ⟨h2, h3⟩, h4, h5, h6⟩
    simp only at h3 h4 h5 h6
    subst h3 h4 h5 h6
    exact ⟨h1, h2⟩
  · rintro ⟨h1, h2⟩
    exact ⟨(a, x), h1, (a, y), ⟨h2, rfl⟩, rfl, rfl, rfl⟩
/-! ### pairs, each once -/
def addP (f : List Pr) (p : Pr) : List Pr := if p ∈ f then f else f ++ [p]
theorem addP_mem {f : List Pr} {p x : Pr} : x ∈ addP f p ↔ x ∈ f ∨ x = p := by
  unfold addP
  split
  · rename_i h
    exact ⟨.inl, fun q => q.elim id fun q => q ▸ h⟩
  · simp
theorem addP_pre (f : List Pr) (p : Pr) : ∃ r, addP f p = f ++ r := by
  unfold addP
  split
  · exact ⟨[], by simp⟩
  · exact ⟨[p], rfl⟩
theorem addP_nd {f : List Pr} {p : Pr} (h : f.Nodup) : (addP f p).Nodup := by
  unfold addP
  split
  · exact h
  · rename_i hn
    exact List.nodup_append.mpr ⟨h, by simp, fun a ha b hb => by rw [List.mem_singleton.mp hb]; exact fun z => hn (z ▸ ha)⟩
theorem addP_len (f : List Pr) (p : Pr) : (addP f p).length ≤ f.length + 1 := by unfold addP; split <;> simp
theorem fold_mem : ∀ {L f : List Pr} {x : Pr}, x ∈ L.foldl addP f ↔ x ∈ f ∨ x ∈ L
  | [], f, x => by simp
  | p :: L, f, x => by rw [List.foldl_cons, fold_mem, addP_mem, List.mem_cons, or_assoc]
theorem fold_pre : ∀ (L f : List Pr), ∃ r, L.foldl addP f = f ++ r
  | [], f => ⟨[], by simp⟩
  | p :: L, f => by
    obtain ⟨r, h⟩ := addP_pre f p
    obtain ⟨r', h'⟩ := fold_pre L (addP f p)
    exact ⟨r ++ r', by rw [List.foldl_cons, h', h, List.append_assoc]⟩
theorem fold_nd : ∀ {L f : List Pr}, f.Nodup → (L.foldl addP f).Nodup
  | [], f, h => h
  | p :: L, f, h => by rw [List.foldl_cons]; exact fold_nd (addP_nd h)
theorem fold_len : ∀ (L f : List Pr), (L.foldl addP f).length ≤ f.length + L.length
  | [], f => by simp
  | p :: L, f => by
    have := fold_len L (addP f p)
    have := addP_len f p
    rw [List.foldl_cons]
    simp only [List.length_cons]
    omega
def stepP (A B : Rows) (f : List Pr) (k : Nat) : List Pr := ((seM A B (f.getD k (0, 0))).map (·.2)).foldl addP f
def itB (A B : Rows) : Nat → List Pr
  | 0 => [(0, 0)]
  | k + 1 => if k < (itB A B k).length then stepP A B (itB A B k) k else itB A B k
section
variable {A B : Rows}
theorem itB_on {k : Nat} (h : k < (itB A B k).length) : itB A B (k + 1) = stepP A B (itB A B k) k := by rw [itB, if_pos h]
theorem itB_off {k : Nat} (h : (itB A B k).length ≤ k) : itB A B (k + 1) = itB A B k := by rw [itB, if_neg (by omega)]
theorem itB_stay {k : Nat} (h : (itB A B k).length ≤ k) : ∀ m, itB A B (k + m) = itB A B k
  | 0 => rfl
  | m + 1 => by
    have := itB_stay h m
    rw [← Nat.add_assoc, itB_off (by rw [this]; omega), this]
theorem itB_pre (k : Nat) : ∃ r, itB A B (k + 1) = itB A B k ++ r := by
  by_cases h : k < (itB A B k).length
  · rw [itB_on h]; exact fold_pre _ _
  · rw [itB_off (by omega)]; exact ⟨[], by simp⟩
theorem itB_len (k : Nat) : (itB A B k).length ≤ (itB A B (k + 1)).length := by
  obtain ⟨r, h⟩ := itB_pre (A := A) (B := B) k
  rw [h, List.length_append]; omega
theorem itB_pos : ∀ k, 1 ≤ (itB A B k).length
  | 0 => by simp [itB]
  | k + 1 => Nat.le_trans (itB_pos k) (itB_len k)
theorem itB_get {k j : Nat} (h : j < (itB A B k).length) : (itB A B (k + 1)).getD j (0, 0) = (itB A B k).getD j (0, 0) := by
  obtain ⟨r, e⟩ := itB_pre (A := A) (B := B) k
  rw [e, List.getD_eq_getElem?_getD, List.getD_eq_getElem?_getD, List.getElem?_append_left h]
theorem itB_sub {k : Nat} {x : Pr} (h : x ∈ itB A B k) : x ∈ itB A B (k + 1) := by
  obtain ⟨r, e⟩ := itB_pre (A := A) (B := B) k
  rw [e]; exact List.mem_append_left _ h
theorem itB_nd : ∀ k, (itB A B k).Nodup
  | 0 => by simp [itB]
  | k + 1 => by
    by_cases h : k < (itB A B k).length
    · rw [itB_on h]; exact fold_nd (itB_nd k)
    · rw [itB_off (by omega)]; exact itB_nd k
/-- where all that is walked leads to stands among the found ones -/
theorem itB_cl : ∀ (k j : Nat), j < k → j < (itB A B k).length → ∀ t ∈ edM A B ((itB A B k).getD j (0, 0)), t.2 ∈ itB A B k
  | k + 1, j, h, hl, t, ht => by
    by_cases hk : k < (itB A B k).length
    · by_cases hj : j < (itB A B k).length
      · rw [itB_get hj] at ht
        by_cases e : j = k
        · subst e
          rw [itB_on hk]
          exact fold_mem.mpr (.inr (List.mem_map.mpr ⟨t, se_mem.mpr ht, rfl⟩))
        · exact itB_sub (itB_cl k j (by omega) hj t ht)
      · omega
    · have e := itB_off (A := A) (B := B) (k := k) (by omega)
      rw [e] at hl ht ⊢
      exact itB_cl k j (by omega) hl t ht
/-- pairs of states -/
def Gr (A B : Rows) (p : Pr) : Prop := (0 ≤ p.1 ∧ p.1 < A.length) ∧ (0 ≤ p.2 ∧ p.2 < B.length)
theorem row_mem {n : Nat} (ok : OkMc n A) {q : Int} {e : Pr} (h : e ∈ rowAt A q) : (0 ≤ e.1 ∧ e.1 < n) ∧ 0 ≤ e.2 ∧ e.2 < A.length := by
  unfold rowAt at h
  rw [List.getD_eq_getElem?_getD] at h
  cases hq : A[q.toNat]? with
  | none => rw [hq] at h; cases h
  | some r =>
    rw [hq] at h
    have := ok.row r (List.mem_of_getElem? hq)
    exact ⟨this.let_ e h, this.to e h⟩
theorem ed_gr {n : Nat} (oa : OkMc n A) (ob : OkMc n B) {p : Pr} {t : Tr} (h : t ∈ edM A B p) : Gr A B t.2 := by
  obtain ⟨h1, h2⟩ := ed_mem.mp h
  exact ⟨(row_mem oa h1).2, (row_mem ob h2).2⟩
theorem itB_gr {n : Nat} (oa : OkMc n A) (ob : OkMc n B) : ∀ k, ∀ p ∈ itB A B k, Gr A B p
  | 0, p, h => by
    have := oa.l1
    have := ob.l1
    simp [itB] at h
    rw [h]
    exact ⟨⟨by simp, by simp; omega⟩, by simp, by simp; omega⟩
  | k + 1, p, h => by
    by_cases hk : k < (itB A B k).length
    · rw [itB_on hk] at h
      rcases fold_mem.mp h with z | z
      · exact itB_gr oa ob k p z
      · obtain ⟨t, ht, rfl⟩ := List.mem_map.mp z
        exact ed_gr oa ob (se_mem.mp ht)
    · rw [itB_off (by omega)] at h
      exact itB_gr oa ob k p h
theorem nd_map {α β : Type} {f : α → β} : ∀ {l : List α}, (∀ p ∈ l, ∀ q ∈ l, f p = f q → p = q) → l.Nodup → (l.map f).Nodup
  | [], _, _ => List.nodup_nil
  | a :: l, h, hn => by
    have hn' := List.nodup_cons.mp hn
    refine List.nodup_cons.mpr ⟨fun z => ?_, nd_map (fun p hp q hq => h p (List.mem_cons_of_mem _ hp) q (List.mem_cons_of_mem _ hq)) hn'.2⟩
    obtain ⟨b, hb, e⟩ := List.mem_map.mp z
    exact hn'.1 (h b (List.mem_cons_of_mem _ hb) a List.mem_cons_self e ▸ hb)
theorem gr_len {f : List Pr} (hn : f.Nodup) (hg : ∀ p ∈ f, Gr A B p) : f.length ≤ A.length * B.length := by
  have := nd_len (L := f.map fun p => p.1 * B.length + p.2) (n := A.length * B.length) (by
    refine nd_map (fun p hp q hq e => ?_) hn
    obtain ⟨⟨a1, a2⟩, b1, b2⟩ := hg p hp
    obtain ⟨⟨c1, c2⟩, d1, d2⟩ := hg q hq
    have h1 : (p.1 * B.length + p.2) / B.length = (q.1 * B.length + q.2) / B.length := by rw [e]
    rw [Int.mul_comm p.1, Int.mul_comm q.1, Int.mul_add_ediv_left _ _ (by omega), Int.mul_add_ediv_left _ _ (by omega), Int.ediv_eq_zero_of_lt b1 b2, Int.ediv_eq_zero_of_lt d1 d2] at h1
    have h2 : p.1 = q.1 := by omega
    have h3 : p.2 = q.2 := by rw [h2] at e; omega
    exact Prod.ext h2 h3) (fun x hx => by
    obtain ⟨p, hp, rfl⟩ := List.mem_map.mp hx
    obtain ⟨⟨a1, a2⟩, b1, b2⟩ := hg p hp
    have h1 : 0 ≤ p.1 * B.length := Int.mul_nonneg a1 (by omega)
    have h2 : (p.1 + 1) * B.length ≤ (A.length : Int) * B.length := Int.mul_le_mul_of_nonneg_right (by omega) (by omega)
    rw [Int.add_mul, Int.one_mul] at h2
    rw [Int.natCast_mul]
    omega)
  rwa [List.length_map] at this
theorem itB_le {n : Nat} (oa : OkMc n A) (ob : OkMc n B) (k : Nat) : (itB A B k).length ≤ A.length * B.length := gr_len (itB_nd k) (itB_gr oa ob k)
end
/-! ### places -/
def ixP (f : List Pr) (p : Pr) : Nat := f.findIdx fun q => decide (q = p)
theorem ix_get {f : List Pr} {p : Pr} (h : p ∈ f) : f[ixP f p]? = some p := by
  have hl : ixP f p < f.length := List.findIdx_lt_length_of_exists ⟨p, h, by simp⟩
  have := List.findIdx_getElem (xs := f) (p := fun q => decide (q = p)) (w := hl)
  rw [List.getElem?_eq_getElem hl]
  exact congrArg some (of_decide_eq_true this)
theorem ix_lt {f : List Pr} {p : Pr} (h : p ∈ f) : ixP f p < f.length := (List.getElem?_eq_some_iff.mp (ix_get h)).1
theorem ix_of {f : List Pr} {p : Pr} {i : Nat} (hn : f.Nodup) (h : f[i]? = some p) : ixP f p = i := by
  have hm := List.mem_of_getElem? h
  obtain ⟨h1, h2⟩ := List.getElem?_eq_some_iff.mp (ix_get hm)
  obtain ⟨h3, h4⟩ := List.getElem?_eq_some_iff.mp h
  exact (List.getElem_inj hn).mp (h2.trans h4.symm)
theorem gIdx_prs {f : List Pr} {p : Pr} (h : p ∈ f) : gIdx (.lst (f.map prD)) (prD p) = some (.int (ixP f p)) := by
  unfold gIdx
  simp only []
  rw [if_pos ⟨by simp [prD, DEP, sh, shL, sh_int], shL_map prD _ (fun t => by simp [prD, DEP, sh, shL, sh_int]) f⟩]
  have e : (f.map prD).findIdx? (fun z => eqv z (prD p)) = some (ixP f p) := by
    rw [List.findIdx?_map]
    have : ((fun z => eqv z (prD p)) ∘ prD) = fun q => decide (q = p) := by funext q; simp [eqv_pr]
    rw [this, List.findIdx?_eq_some_iff_findIdx_eq]
    exact ⟨ix_lt h, rfl⟩
  rw [e]
  rfl
/-- entries: pairs, each with a number -/
def entV (l : List (Pr × Int)) : Ents := l.map fun x => (prD x.1, .int x.2)
theorem any_entV (l : List (Pr × Int)) (x : Pr) : ((entV l).any fun p => eqv p.1 (prD x)) = decide (x ∈ l.map (·.1)) := by
  unfold entV
  rw [List.any_map, Bool.eq_iff_iff, List.any_eq_true, decide_eq_true_eq, List.mem_map]
  simp only [Function.comp, eqv_pr, decide_eq_true_eq]
theorem get_entV (l : List (Pr × Int)) (x : Pr) : (getH (entV l) (prD x)).isSome = decide (x ∈ l.map (·.1)) := by
  rw [← any_entV]
  unfold getH
  rw [Option.isSome_map, Bool.eq_iff_iff, List.find?_isSome, List.any_eq_true]
theorem put_entV {l : List (Pr × Int)} {x : Pr} {i : Int} (h : x ∉ l.map (·.1)) : putH (entV l) (prD x) (.int i) = entV (l ++ [(x, i)]) := by
  unfold putH
  rw [any_entV, decide_eq_false h]
  simp [entV]
theorem len_entV (l : List (Pr × Int)) : (entV l).length = l.length := by simp [entV]
theorem getV : ∀ {l : List (Pr × Int)} {x : Pr} {i : Int}, (l.map (·.1)).Nodup → (x, i) ∈ l → getH (entV l) (prD x) = some (.int i)
  | y :: l, x, i, hn, h => by
    unfold getH entV
    rw [List.map_cons, List.find?_cons]
    simp only [eqv_pr]
    have hn' := List.nodup_cons.mp hn
    rcases List.mem_cons.mp h with e | e
    · rw [← e]; simp
    · have : ¬ y.1 = x := fun z => hn'.1 (List.mem_map.mpr ⟨(x, i), e, z.symm⟩)
      rw [decide_eq_false this]
      exact getV hn'.2 e
theorem kyT_prD (x : Pr) : kyT (prD x) = true := kyT_pr x
/-! ### rows of the product -/
theorem psort_eq {l l' : List Pr} (h : l.Perm l') : psort l = psort l' := by
  have key : ∀ (a b : List Pr), a.Perm b → a.Pairwise PrLe → b.Pairwise PrLe → a = b := by
    intro a
    induction a with
    | nil => intro b p _ _; exact (List.nil_perm.mp p).symm
    | cons x a ih =>
      intro b p h1 h2
      cases b with
      | nil => exact absurd p (by simp)
      | cons y b =>
        have h1' := List.pairwise_cons.mp h1
        have h2' := List.pairwise_cons.mp h2
        have e : x = y := by
          have m1 : y ∈ x :: a := p.mem_iff.mpr List.mem_cons_self
          have m2 : x ∈ y :: b := p.mem_iff.mp List.mem_cons_self
          rcases List.mem_cons.mp m1 with z | z
          · exact z.symm
          rcases List.mem_cons.mp m2 with w | w
          · exact w
          have q1 := prLt_false.mp (h1'.1 y z)
          have q2 := prLt_false.mp (h2'.1 x w)
          exact Prod.ext (by omega) (by omega)
        subst e
        rw [ih b (List.perm_cons x |>.mp p) h1'.2 h2'.2]
  exact key _ _ ((psort_perm l).trans (h.trans (psort_perm l').symm)) (psort_pw l) (psort_pw l')
def rowP (f : List Pr) (L : List Tr) : List Pr := psort (L.map fun t => (t.1, (ixP f t.2 : Int)))
def rowsP (A B : Rows) (f : List Pr) : Rows := f.map fun p => rowP f (edM A B p)
theorem rowP_se (A B : Rows) (f : List Pr) (p : Pr) : rowP f (seM A B p) = rowP f (edM A B p) := psort_eq ((se_perm A B p).map _)
theorem rowP_len (f : List Pr) (L : List Tr) : (rowP f L).length = L.length := by rw [rowP, (psort_perm _).length_eq, List.length_map]
theorem ed_len (A B : Rows) (p : Pr) : (edM A B p).length ≤ (rowAt A p.1).length * (rowAt B p.2).length := by
  unfold edM
  generalize rowAt A p.1 = r
  induction r with
  | nil => simp
  | cons e r ih =>
    rw [List.flatMap_cons, List.length_append, List.length_map, List.length_cons, Nat.add_mul, Nat.one_mul]
    exact Nat.le_trans (Nat.add_le_add (List.length_filter_le _ _) ih) (Nat.le_of_eq (Nat.add_comm _ _))
/-! ### equations -/
@[simp] theorem s_idxO (i : Nat) (m : M D) (e : Sl) : idxE (.o i) m e = (bd (rd i) fun l => if isLst l = true then bd m fun y => bd (rd i) fun l => opt (gIdx l y) else badM) e := (rfl)
@[simp] theorem s_isLst (xs : List D) : isLst (.lst xs) = true := (rfl)
theorem reg_wp {vs : List Nat} {m : S} {e : Sl} {Q : Fl → Sl → Prop} (he : (vs.all fun i => emptyAt e i) = true) (h : WP (m e) fun f e' => Q f (wipeE e' vs)) : WP (regS vs m e) Q := by
  obtain ⟨f, e', p, q⟩ := h
  refine ⟨f, wipeE e' vs, ?_, q⟩
  unfold regS
  rw [if_pos he, p]
theorem itB_fin {A B : Rows} {m m' : Nat} (h : (itB A B m).length ≤ m) (h' : (itB A B m').length ≤ m') : itB A B m = itB A B m' := by
  rcases Nat.le_total m m' with z | z
  · obtain ⟨d, rfl⟩ := Nat.exists_eq_add_of_le z
    exact (itB_stay h d).symm
  · obtain ⟨d, rfl⟩ := Nat.exists_eq_add_of_le z
    exact itB_stay h' d
theorem itB_take {A B : Rows} {k : Nat} (h : k < (itB A B k).length) : (itB A B (k + 1)).take (k + 1) = (itB A B k).take k ++ [(itB A B k).getD k (0, 0)] := by
  obtain ⟨r, e⟩ := itB_pre (A := A) (B := B) k
  rw [e, List.take_append_of_le_length (by omega), List.take_succ, List.getElem?_eq_getElem h, List.getD_eq_getElem?_getD, List.getElem?_eq_getElem h]
  rfl
end G

end
section
/-! Al: machines that are alike: colours made finer, the greatest set of pairs; no program in sight. -/
namespace G
open Cr
section
variable {α : Type} [DecidableEq α]
def addX (f : List α) (p : α) : List α := if p ∈ f then f else f ++ [p]
def ixX (f : List α) (p : α) : Nat := f.findIdx fun q => decide (q = p)
theorem addX_mem {f : List α} {p x : α} : x ∈ addX f p ↔ x ∈ f ∨ x = p := by
  unfold addX
  split
  · rename_i h
    exact ⟨.inl, fun q => q.elim id fun q => q ▸ h⟩
  · simp
theorem addX_pre (f : List α) (p : α) : ∃ r, addX f p = f ++ r := by
  unfold addX
  split
  · exact ⟨[], by simp⟩
  · exact ⟨[p], rfl⟩
theorem addX_nd {f : List α} {p : α} (h : f.Nodup) : (addX f p).Nodup := by
  unfold addX
  split
  · exact h
  · rename_i hn
    exact List.nodup_append.mpr ⟨h, by simp, fun a ha b hb => by rw [List.mem_singleton.mp hb]; exact fun z => hn (z ▸ ha)⟩
theorem foldX_mem : ∀ {L f : List α} {x : α}, x ∈ L.foldl addX f ↔ x ∈ f ∨ x ∈ L
  | [], f, x => by simp
  | p :: L, f, x => by rw [List.foldl_cons, foldX_mem, addX_mem, List.mem_cons, or_assoc]
theorem foldX_pre : ∀ (L f : List α), ∃ r, L.foldl addX f = f ++ r
  | [], f => ⟨[], by simp⟩
  | p :: L, f => by
    obtain ⟨r, h⟩ := addX_pre f p
    obtain ⟨r', h'⟩ := foldX_pre L (addX f p)
    exact ⟨r ++ r', by rw [List.foldl_cons, h', h, List.append_assoc]⟩
theorem foldX_nd : ∀ {L f : List α}, f.Nodup → (L.foldl addX f).Nodup
  | [], f, h => h
  | p :: L, f, h => by rw [List.foldl_cons]; exact foldX_nd (addX_nd h)
theorem ixX_get {f : List α} {p : α} (h : p ∈ f) : f[ixX f p]? = some p := by
  have hl : ixX f p < f.length := List.findIdx_lt_length_of_exists ⟨p, h, by simp⟩
  have := List.findIdx_getElem (xs := f) (p := fun q => decide (q = p)) (w := hl)
  rw [List.getElem?_eq_getElem hl]
  exact congrArg some (of_decide_eq_true this)
theorem ixX_lt {f : List α} {p : α} (h : p ∈ f) : ixX f p < f.length := (List.getElem?_eq_some_iff.mp (ixX_get h)).1
theorem ixX_of {f : List α} {p : α} {i : Nat} (hn : f.Nodup) (h : f[i]? = some p) : ixX f p = i := by
  have hm := List.mem_of_getElem? h
  obtain ⟨h1, h2⟩ := List.getElem?_eq_some_iff.mp (ixX_get hm)
  obtain ⟨h3, h4⟩ := List.getElem?_eq_some_iff.mp h
  exact (List.getElem_inj hn).mp (h2.trans h4.symm)
theorem ixX_app {f r : List α} {p : α} (h : p ∈ f) : ixX (f ++ r) p = ixX f p := by
  have hl : ixX f p < f.length := ixX_lt h
  unfold ixX at hl ⊢
  rw [List.findIdx_append, if_pos hl]
theorem ixX_inj {f : List α} {p q : α} (hp : p ∈ f) (hq : q ∈ f) : ixX f p = ixX f q ↔ p = q := by
  constructor
  · intro h
    have h1 := ixX_get hp
    rw [h, ixX_get hq] at h1
    exact (Option.some.inj h1).symm
  · rintro rfl; rfl
/-- numbers in the order in which things are met -/
def numX (L : List α) : List Int := L.map fun l => (ixX (L.foldl addX []) l : Int)
theorem mem_dl {L : List α} {x : α} : x ∈ L.foldl addX [] ↔ x ∈ L := by rw [foldX_mem]; simp
theorem dl_nd (L : List α) : (L.foldl addX []).Nodup := foldX_nd List.nodup_nil
theorem numX_eq {L : List α} {i j : Nat} (hi : i < L.length) (hj : j < L.length) : (numX L).getD i 0 = (numX L).getD j 0 ↔ L[i] = L[j] := by
  unfold numX
  rw [List.getD_eq_getElem?_getD, List.getD_eq_getElem?_getD, List.getElem?_map, List.getElem?_map, List.getElem?_eq_getElem hi, List.getElem?_eq_getElem hj]
  show ((ixX _ L[i] : Nat) : Int) = ((ixX _ L[j] : Nat) : Int) ↔ _
  rw [Int.natCast_inj, ixX_inj (mem_dl.mpr (List.getElem_mem hi)) (mem_dl.mpr (List.getElem_mem hj))]
theorem numX_len (L : List α) : (numX L).length = L.length := by simp [numX]
theorem numX_bd {L : List α} {v : Int} (h : v ∈ numX L) : 0 ≤ v ∧ v < (L.foldl addX []).length := by
  obtain ⟨l, hl, rfl⟩ := List.mem_map.mp h
  have := ixX_lt (mem_dl.mpr hl)
  exact ⟨by omega, by omega⟩
theorem numX_sur {L : List α} {v : Nat} (h : v < (L.foldl addX []).length) : (v : Int) ∈ numX L := by
  have hm : (L.foldl addX [])[v] ∈ L := mem_dl.mp (List.getElem_mem h)
  refine List.mem_map.mpr ⟨(L.foldl addX [])[v], hm, ?_⟩
  rw [ixX_of (dl_nd L) (List.getElem?_eq_getElem h)]
theorem numX_max {L : List α} {n : Int} {ns : List Int} (h : numX L = n :: ns) : maxL n ns + 1 = (L.foldl addX []).length := by
  have hne : 0 < (L.foldl addX []).length := by
    have : n ∈ numX L := by rw [h]; exact List.mem_cons_self
    have := numX_bd this
    omega
  have hs := numX_sur (L := L) (v := (L.foldl addX []).length - 1) (by omega)
  rw [h] at hs
  have hle := maxL_le ns n
  have h1 : (((L.foldl addX []).length - 1 : Nat) : Int) ≤ maxL n ns := by
    rcases List.mem_cons.mp hs with z | z
    · rw [z]; exact hle.1
    · exact hle.2 _ z
  have h2 : maxL n ns < (L.foldl addX []).length := by
    rcases maxL_mem ns n with z | z
    · rw [z]; exact (numX_bd (by rw [h]; exact List.mem_cons_self)).2
    · exact (numX_bd (by rw [h]; exact List.mem_cons_of_mem _ z)).2
  omega
end
/-! ### looks -/
def colAt (c : List Int) (t : Int) : Int := c.getD t.toNat 0
def lkS (c : List Int) (r : List Pr) : List Pr := r.map fun e => (e.1, colAt c e.2)
def lk (c : List Int) (r : List Pr) : List Pr := psort ((lkS c r).foldl addX [])
theorem lk_eq {c c' : List Int} {r r' : List Pr} : lk c r = lk c' r' ↔ ∀ x, x ∈ lkS c r ↔ x ∈ lkS c' r' := by
  constructor
  · intro h x
    have h1 : x ∈ lk c r ↔ x ∈ lkS c r := by unfold lk; rw [(psort_perm _).mem_iff, mem_dl]
    have h2 : x ∈ lk c' r' ↔ x ∈ lkS c' r' := by unfold lk; rw [(psort_perm _).mem_iff, mem_dl]
    rw [← h1, ← h2, h]
  · intro h
    exact psort_eq ((List.perm_ext_iff_of_nodup (dl_nd _) (dl_nd _)).mpr fun x => by rw [mem_dl, mem_dl, h])
def recol (U : Rows) (c : List Int) : List Int := numX (U.map (lk c))
def cI (U : Rows) : Nat → List Int
  | 0 => U.map fun _ => 0
  | k + 1 => recol U (cI U k)
def mI (U : Rows) : Nat → Nat
  | 0 => 1
  | k + 1 => ((U.map (lk (cI U k))).foldl addX []).length
theorem cI_len (U : Rows) : ∀ k, (cI U k).length = U.length
  | 0 => by simp [cI]
  | k + 1 => by simp [cI, recol, numX_len]
theorem cI_next {U : Rows} {k i j : Nat} (hi : i < U.length) (hj : j < U.length) : (cI U (k + 1)).getD i 0 = (cI U (k + 1)).getD j 0 ↔ lk (cI U k) U[i] = lk (cI U k) U[j] := by
  show (numX (U.map (lk (cI U k)))).getD i 0 = (numX (U.map (lk (cI U k)))).getD j 0 ↔ _
  rw [numX_eq (by simpa using hi) (by simpa using hj)]
  simp
/-- colours only part -/
theorem cI_fine {U : Rows} (hU : ∀ r ∈ U, ∀ e ∈ r, 0 ≤ e.2 ∧ e.2 < U.length) : ∀ (k i j : Nat), i < U.length → j < U.length → (cI U (k + 1)).getD i 0 = (cI U (k + 1)).getD j 0 → (cI U k).getD i 0 = (cI U k).getD j 0
  | 0, i, j, hi, hj, _ => by
    simp [cI, List.getD_eq_getElem?_getD, hi, hj]
  | k + 1, i, j, hi, hj, h => by
    rw [cI_next hi hj, lk_eq] at h ⊢
    have key : ∀ i j : Nat, (hi : i < U.length) → (hj : j < U.length) → (∀ x, x ∈ lkS (cI U (k + 1)) U[i] ↔ x ∈ lkS (cI U (k + 1)) U[j]) → ∀ x, x ∈ lkS (cI U k) U[i] → x ∈ lkS (cI U k) U[j] := by
      intro i j hi hj h x hx
      obtain ⟨e, he, rfl⟩ := List.mem_map.mp hx
      obtain ⟨f, hf, ef⟩ := List.mem_map.mp ((h _).mp (List.mem_map.mpr ⟨e, he, rfl⟩))
      have b1 := hU _ (List.getElem_mem hi) e he
      have b2 := hU _ (List.getElem_mem hj) f hf
      simp only [Prod.mk.injEq] at ef
      have := cI_fine hU k f.2.toNat e.2.toNat (by omega) (by omega) ef.2
      exact List.mem_map.mpr ⟨f, hf, Prod.ext ef.1 this⟩
    exact fun x => ⟨key i j hi hj h x, key j i hj hi (fun y => (h y).symm) x⟩
theorem nd_subX {α : Type} [DecidableEq α] : ∀ {l m : List α}, l.Nodup → (∀ x ∈ l, x ∈ m) → l.length ≤ m.length
  | [], _, _, _ => Nat.zero_le _
  | a :: l, m, h, hs => by
    have h' := List.nodup_cons.mp h
    have ha := hs a List.mem_cons_self
    have := nd_subX (m := m.erase a) h'.2 fun x hx => (List.mem_erase_of_ne (fun (z : x = a) => h'.1 (z ▸ hx))).mpr (hs x (List.mem_cons_of_mem _ hx))
    rw [List.length_erase_of_mem ha] at this
    have := List.length_pos_of_mem ha
    simp only [List.length_cons]
    omega
theorem sur_inj {m : Nat} {g : Nat → Nat} (hg : ∀ i, i < m → g i < m) (hs : ∀ v, v < m → ∃ i, i < m ∧ g i = v) : ∀ i j, i < m → j < m → g i = g j → i = j := by
  have hp : ((List.range m).map g).Nodup := by
    have key : ∀ {a b : List Nat}, a.Nodup → (∀ x ∈ a, x ∈ b) → b.length ≤ a.length → b.Nodup := by
      intro a
      induction a with
      | nil => intro b _ _ h; have : b = [] := List.length_eq_zero_iff.mp (by simpa using h); rw [this]; exact List.nodup_nil
      | cons x a ih =>
        intro b hn hs hl
        have hn' := List.nodup_cons.mp hn
        have hx := hs x List.mem_cons_self
        have hsub : ∀ y ∈ a, y ∈ b.erase x := fun y hy => (List.mem_erase_of_ne (fun (z : y = x) => hn'.1 (z ▸ hy))).mpr (hs y (List.mem_cons_of_mem _ hy))
        have hel := List.length_erase_of_mem hx
        have hlen : (b.erase x).length ≤ a.length := by simp only [List.length_cons] at hl; omega
        have h1 := ih hn'.2 hsub hlen
        have h2 : (x :: b.erase x).Nodup := List.nodup_cons.mpr ⟨fun z => by
          -- x would be twice in b, and b too long
          have hx2 : ∀ y ∈ x :: a, y ∈ b.erase x := fun y hy => by
            rcases List.mem_cons.mp hy with e | e
            · rw [e]; exact z
            · exact hsub y e
          have hlong : ∀ {l m : List Nat}, l.Nodup → (∀ y ∈ l, y ∈ m) → l.length ≤ m.length := by
            intro l
            induction l with
            | nil => intro m _ _; exact Nat.zero_le _
            | cons u l ihl =>
              intro m h hs
              have h' := List.nodup_cons.mp h
              have hu := hs u List.mem_cons_self
              have := ihl (m := m.erase u) h'.2 fun y hy => (List.mem_erase_of_ne (fun (z : y = u) => h'.1 (z ▸ hy))).mpr (hs y (List.mem_cons_of_mem _ hy))
              rw [List.length_erase_of_mem hu] at this
              have := List.length_pos_of_mem hu
              simp only [List.length_cons]
              omega
          have := hlong hn hx2
          simp only [List.length_cons] at this
          omega, h1⟩
        exact ((List.perm_cons_erase hx).nodup_iff).mpr h2
    refine key (a := List.range m) (b := (List.range m).map g) List.nodup_range (fun v hv => ?_) (by simp)
    obtain ⟨i, hi, e⟩ := hs v (List.mem_range.mp hv)
    exact List.mem_map.mpr ⟨i, List.mem_range.mpr hi, e⟩
  intro i j hi hj e
  have := (List.getElem_inj hp (i := i) (j := j) (h₀ := by simpa using hi) (h₁ := by simpa using hj)).mp (by simpa using e)
  exact this
section
variable {U : Rows} (hU : ∀ r ∈ U, ∀ e ∈ r, 0 ≤ e.2 ∧ e.2 < U.length) (h0 : 0 < U.length)
theorem cI_bd : ∀ {k : Nat} {v : Int}, v ∈ cI U k → 0 ≤ v ∧ v < mI U k
  | 0, v, h => by
    obtain ⟨_, _, rfl⟩ := List.mem_map.mp h
    simp [mI]
  | k + 1, v, h => numX_bd h
include h0 in
theorem cI_sur : ∀ {k v : Nat}, v < mI U k → (v : Int) ∈ cI U k
  | 0, v, h => by
    have : v = 0 := by simp [mI] at h; exact h
    subst this
    exact List.mem_map.mpr ⟨U[0], List.getElem_mem h0, rfl⟩
  | k + 1, v, h => numX_sur h
theorem mI_le : ∀ k, mI U k ≤ max U.length 1
  | 0 => by simp [mI]; omega
  | k + 1 => by
    have := nd_subX (dl_nd (U.map (lk (cI U k)))) (m := U.map (lk (cI U k))) fun x hx => mem_dl.mp hx
    rw [List.length_map] at this
    show ((U.map (lk (cI U k))).foldl addX []).length ≤ _
    omega
include hU h0 in
/-- the coarser colour of a finer one -/
theorem coarse (k : Nat) : ∃ g : Nat → Nat, (∀ i, i < U.length → (cI U k).getD i 0 = (g ((cI U (k + 1)).getD i 0).toNat : Int)) ∧ (∀ v, v < mI U (k + 1) → g v < mI U k) ∧ ∀ v, v < mI U k → ∃ u, u < mI U (k + 1) ∧ g u = v := by
  have hget : ∀ (k i : Nat), i < U.length → (cI U k).getD i 0 ∈ cI U k := fun k i hi => by
    rw [List.getD_eq_getElem?_getD, List.getElem?_eq_getElem (by rw [cI_len]; exact hi)]
    exact List.getElem_mem _
  let ix : Nat → Nat := fun v => (cI U (k + 1)).findIdx fun z => decide (z = (v : Int))
  have hix : ∀ v, v < mI U (k + 1) → ix v < U.length ∧ (cI U (k + 1)).getD (ix v) 0 = (v : Int) := fun v hv => by
    have hm := cI_sur h0 hv
    have hl : ix v < (cI U (k + 1)).length := List.findIdx_lt_length_of_exists ⟨_, hm, by simp⟩
    have := List.findIdx_getElem (xs := cI U (k + 1)) (p := fun z => decide (z = (v : Int))) (w := hl)
    refine ⟨by rw [← cI_len U (k + 1)]; exact hl, ?_⟩
    rw [List.getD_eq_getElem?_getD, List.getElem?_eq_getElem hl]
    exact of_decide_eq_true this
  have he : ∀ i, i < U.length → (cI U k).getD i 0 = (((cI U k).getD (ix ((cI U (k + 1)).getD i 0).toNat) 0).toNat : Int) := fun i hi => by
    have hb := cI_bd (hget (k + 1) i hi)
    have hx := hix ((cI U (k + 1)).getD i 0).toNat (by omega)
    have : (cI U k).getD (ix ((cI U (k + 1)).getD i 0).toNat) 0 = (cI U k).getD i 0 := cI_fine hU k _ i hx.1 hi (by rw [hx.2]; omega)
    rw [this]
    have := cI_bd (hget k i hi)
    omega
  refine ⟨fun v => ((cI U k).getD (ix v) 0).toNat, he, fun v hv => ?_, fun v hv => ?_⟩
  · have := cI_bd (hget k _ (hix v hv).1)
    show ((cI U k).getD (ix v) 0).toNat < _
    omega
  · obtain ⟨i, hi⟩ := List.mem_iff_getElem?.mp (cI_sur h0 hv)
    have hil : i < U.length := by rw [← cI_len U k]; exact (List.getElem?_eq_some_iff.mp hi).1
    have hv' : (cI U k).getD i 0 = (v : Int) := by rw [List.getD_eq_getElem?_getD, hi]; rfl
    have hb := cI_bd (hget (k + 1) i hil)
    refine ⟨((cI U (k + 1)).getD i 0).toNat, by omega, ?_⟩
    have := he i hil
    rw [hv'] at this
    show ((cI U k).getD (ix ((cI U (k + 1)).getD i 0).toNat) 0).toNat = v
    omega
include hU h0 in
theorem mI_mono (k : Nat) : mI U k ≤ mI U (k + 1) := by
  obtain ⟨g, _, _, h3⟩ := coarse hU h0 k
  have := nd_subX (l := List.range (mI U k)) List.nodup_range (m := (List.range (mI U (k + 1))).map g) fun v hv => by
    obtain ⟨u, hu, e⟩ := h3 v (List.mem_range.mp hv)
    exact List.mem_map.mpr ⟨u, List.mem_range.mpr hu, e⟩
  simpa using this
include hU h0 in
/-- as many colours as before: the same classes -/
theorem stable {k : Nat} (hm : mI U (k + 1) = mI U k) {i j : Nat} (hi : i < U.length) (hj : j < U.length) (h : (cI U k).getD i 0 = (cI U k).getD j 0) : (cI U (k + 1)).getD i 0 = (cI U (k + 1)).getD j 0 := by
  obtain ⟨g, h1, h2, h3⟩ := coarse hU h0 k
  rw [hm] at h2 h3
  have hget : ∀ (i : Nat), i < U.length → (cI U (k + 1)).getD i 0 ∈ cI U (k + 1) := fun i hi => by
    rw [List.getD_eq_getElem?_getD, List.getElem?_eq_getElem (by rw [cI_len]; exact hi)]
    exact List.getElem_mem _
  have b1 := cI_bd (hget i hi)
  have b2 := cI_bd (hget j hj)
  rw [h1 i hi, h1 j hj] at h
  have := sur_inj h2 (fun v hv => by obtain ⟨u, a, b⟩ := h3 v hv; exact ⟨u, a, b⟩) _ _ (by omega) (by omega) (show g ((cI U (k + 1)).getD i 0).toNat = g ((cI U (k + 1)).getD j 0).toNat by omega)
  omega
end
/-! ### the greatest set of pairs -/
def Sim (A B : Rows) (S : Pr → Prop) : Prop := ∀ p q, S (p, q) → (∀ e ∈ rowAt A p, ∃ f ∈ rowAt B q, f.1 = e.1 ∧ S (e.2, f.2)) ∧ ∀ f ∈ rowAt B q, ∃ e ∈ rowAt A p, e.1 = f.1 ∧ S (e.2, f.2)
def BS (A B : Rows) (p q : Int) : Prop := ∃ S : Pr → Prop, Sim A B S ∧ (∀ x, S x → Gr A B x) ∧ S (p, q)
theorem BS.symm {A B : Rows} {p q : Int} (h : BS A B p q) : BS B A q p := by
  obtain ⟨S, h1, h2, h3⟩ := h
  refine ⟨fun x => S (x.2, x.1), fun p q hs => ?_, fun x hx => ⟨(h2 _ hx).2, (h2 _ hx).1⟩, h3⟩
  obtain ⟨a, b⟩ := h1 q p hs
  exact ⟨fun e he => by obtain ⟨f, hf, e1, e2⟩ := b e he; exact ⟨f, hf, e1, e2⟩, fun f hf => by obtain ⟨e, he, e1, e2⟩ := a f hf; exact ⟨e, he, e1, e2⟩⟩
theorem BS.refl {n : Nat} {A : Rows} (oa : OkMc n A) : BS A A 0 0 := by
  have := oa.l1
  refine ⟨fun x => x.1 = x.2 ∧ Gr A A x, fun p q ⟨e, g⟩ => ?_, fun x hx => hx.2, rfl, ⟨by simp, by simp; omega⟩, by simp, by simp; omega⟩
  have e : p = q := e
  subst e
  exact ⟨fun e he => ⟨e, he, rfl, rfl, (row_mem oa he).2, (row_mem oa he).2⟩, fun e he => ⟨e, he, rfl, rfl, (row_mem oa he).2, (row_mem oa he).2⟩⟩
def unionR (A B : Rows) : Rows := A ++ B.map fun r => r.map fun e => (e.1, e.2 + (A.length : Int))
theorem union_len (A B : Rows) : (unionR A B).length = A.length + B.length := by simp [unionR]
theorem union_l {A B : Rows} {p : Nat} (h : p < A.length) (h2 : p < (unionR A B).length) : (unionR A B)[p] = rowAt A p := by
  have e : (unionR A B)[p]? = some (rowAt A p) := by
    unfold unionR rowAt
    rw [List.getElem?_append_left h, Int.toNat_natCast, List.getD_eq_getElem?_getD, List.getElem?_eq_getElem h]; rfl
  exact (List.getElem?_eq_some_iff.mp e).2
theorem union_r {A B : Rows} {q : Nat} (h : q < B.length) (h2 : A.length + q < (unionR A B).length) : (unionR A B)[A.length + q] = (rowAt B q).map fun e => (e.1, e.2 + (A.length : Int)) := by
  have e : (unionR A B)[A.length + q]? = some ((rowAt B q).map fun e => (e.1, e.2 + (A.length : Int))) := by
    unfold unionR rowAt
    rw [List.getElem?_append_right (by omega), Nat.add_sub_cancel_left, List.getElem?_map, Int.toNat_natCast, List.getD_eq_getElem?_getD, List.getElem?_eq_getElem h]; rfl
  exact (List.getElem?_eq_some_iff.mp e).2
theorem union_in {n : Nat} {A B : Rows} (oa : OkMc n A) (ob : OkMc n B) : ∀ r ∈ unionR A B, ∀ e ∈ r, 0 ≤ e.2 ∧ e.2 < (unionR A B).length := fun r hr e he => by
  rw [union_len]
  rcases List.mem_append.mp hr with z | z
  · have := (oa.row r z).to e he
    omega
  · obtain ⟨r', hr', rfl⟩ := List.mem_map.mp z
    obtain ⟨e', he', rfl⟩ := List.mem_map.mp he
    have := (ob.row r' hr').to e' he'
    simp only
    omega
section
variable {n : Nat} {A B : Rows} (oa : OkMc n A) (ob : OkMc n B)
include oa ob
theorem bs_colour {S : Pr → Prop} (hS : Sim A B S) (hg : ∀ x, S x → Gr A B x) : ∀ (k p q : Nat), S ((p : Int), (q : Int)) → (cI (unionR A B) k).getD p 0 = (cI (unionR A B) k).getD (A.length + q) 0
  | 0, p, q, h => by
    obtain ⟨⟨_, h1⟩, _, h2⟩ := hg _ h
    simp only at h1 h2
    have hl := union_len A B
    rw [List.getD_eq_getElem?_getD, List.getD_eq_getElem?_getD]
    simp [cI, show p < (unionR A B).length by omega, show A.length + q < (unionR A B).length by omega]
  | k + 1, p, q, h => by
    obtain ⟨⟨_, h1⟩, _, h2⟩ := hg _ h
    simp only at h1 h2
    have hl := union_len A B
    rw [cI_next (show p < (unionR A B).length by omega) (show A.length + q < (unionR A B).length by omega), union_l (by omega), union_r (by omega), lk_eq]
    obtain ⟨s1, s2⟩ := hS _ _ h
    have ih : ∀ x y : Int, S (x, y) → colAt (cI (unionR A B) k) x = colAt (cI (unionR A B) k) (y + (A.length : Int)) := fun x y hxy => by
      obtain ⟨⟨a1, a2⟩, b1, b2⟩ := hg _ hxy
      simp only at a1 a2 b1 b2
      have := bs_colour hS hg k x.toNat y.toNat (by rw [Int.toNat_of_nonneg a1, Int.toNat_of_nonneg b1]; exact hxy)
      unfold colAt
      rw [this, show (y + (A.length : Int)).toNat = A.length + y.toNat by omega]
    intro x
    constructor
    · intro hx
      obtain ⟨e, he, rfl⟩ := List.mem_map.mp hx
      obtain ⟨f, hf, e1, e2⟩ := s1 e he
      refine List.mem_map.mpr ⟨(f.1, f.2 + (A.length : Int)), List.mem_map.mpr ⟨f, hf, rfl⟩, ?_⟩
      simp only
      rw [e1, ih _ _ e2]
    · intro hx
      obtain ⟨e', he', rfl⟩ := List.mem_map.mp hx
      obtain ⟨f, hf, rfl⟩ := List.mem_map.mp he'
      obtain ⟨e, he, e1, e2⟩ := s2 f hf
      refine List.mem_map.mpr ⟨e, he, ?_⟩
      simp only
      rw [e1, ih _ _ e2]
theorem colour_bs {k : Nat} (hm : mI (unionR A B) (k + 1) = mI (unionR A B) k) : (cI (unionR A B) (k + 1)).getD 0 0 = (cI (unionR A B) (k + 1)).getD A.length 0 ↔ BS A B 0 0 := by
  have hl := union_len A B
  have la := oa.l1
  have lb := ob.l1
  have hU := union_in oa ob
  have h0 : 0 < (unionR A B).length := by omega
  constructor
  · intro h
    refine ⟨fun x => Gr A B x ∧ (cI (unionR A B) (k + 1)).getD x.1.toNat 0 = (cI (unionR A B) (k + 1)).getD (A.length + x.2.toNat) 0, fun p q ⟨g, hc⟩ => ?_, fun x hx => hx.1, ⟨⟨by simp, by simp; omega⟩, by simp, by simp; omega⟩, h⟩
    obtain ⟨⟨a1, a2⟩, b1, b2⟩ := g
    simp only at a1 a2 b1 b2 hc
    obtain ⟨p, rfl⟩ := Int.eq_ofNat_of_zero_le a1
    obtain ⟨q, rfl⟩ := Int.eq_ofNat_of_zero_le b1
    simp only [Int.toNat_natCast] at hc
    rw [cI_next (show p < (unionR A B).length by omega) (show A.length + q < (unionR A B).length by omega), union_l (by omega), union_r (by omega), lk_eq] at hc
    have st : ∀ x y : Int, 0 ≤ x → x < A.length → 0 ≤ y → y < B.length → colAt (cI (unionR A B) k) x = colAt (cI (unionR A B) k) (y + (A.length : Int)) → (cI (unionR A B) (k + 1)).getD x.toNat 0 = (cI (unionR A B) (k + 1)).getD (A.length + y.toNat) 0 := fun x y x0 x1 y0 y1 e => by
      refine stable hU h0 hm (by omega) (by omega) ?_
      unfold colAt at e
      rw [e, show (y + (A.length : Int)).toNat = A.length + y.toNat by omega]
    constructor
    · intro e he
      have hx := (hc (e.1, colAt (cI (unionR A B) k) e.2)).mp (List.mem_map.mpr ⟨e, he, rfl⟩)
      obtain ⟨f', hf', ef⟩ := List.mem_map.mp hx
      obtain ⟨f, hf, rfl⟩ := List.mem_map.mp hf'
      simp only [Prod.mk.injEq] at ef
      have r1 := (row_mem oa he).2
      have r2 := (row_mem ob hf).2
      exact ⟨f, hf, ef.1, ⟨r1, r2⟩, st _ _ r1.1 r1.2 r2.1 r2.2 ef.2.symm⟩
    · intro f hf
      have hx := (hc (f.1, colAt (cI (unionR A B) k) (f.2 + (A.length : Int)))).mpr (List.mem_map.mpr ⟨(f.1, f.2 + (A.length : Int)), List.mem_map.mpr ⟨f, hf, rfl⟩, rfl⟩)
      obtain ⟨e, he, ee⟩ := List.mem_map.mp hx
      simp only [Prod.mk.injEq] at ee
      have r1 := (row_mem oa he).2
      have r2 := (row_mem ob hf).2
      exact ⟨e, he, ee.1, ⟨r1, r2⟩, st _ _ r1.1 r1.2 r2.1 r2.2 ee.2⟩
  · rintro ⟨S, h1, h2, h3⟩
    exact bs_colour oa ob h1 h2 (k + 1) 0 0 h3
end
/-! ### as data -/
theorem put_entP_in {l : List Pr} {x : Pr} (h : x ∈ l) : putH (entP l) (prD x) (.bl true) = entP l := by
  unfold putH
  rw [any_entP, decide_eq_true h, if_pos rfl]
  unfold entP
  rw [List.map_map]
  refine List.map_congr_left fun y _ => ?_
  simp only [Function.comp, eqv_pr]
  split <;> rfl
theorem put_entX (l : List Pr) (x : Pr) : putH (entP l) (prD x) (.bl true) = entP (addX l x) := by
  unfold addX
  split
  · rename_i h; exact put_entP_in h
  · rename_i h; exact put_entP h
theorem lt_pr (p q : Pr) : ltD (prD p) (prD q) = prLt p q := by
  obtain ⟨x, y⟩ := p
  obtain ⟨u, v⟩ := q
  simp only [prD, ltD, ltL, eqv_int, prLt, decide_eq_true_eq]
  by_cases h2 : x = u
  · subst h2
    by_cases h3 : y = v
    · subst h3; simp
    · simp [h3]
  · simp [h2]
def pLe (p q : Pr) : Bool := !prLt q p
theorem msort_eq (L : List Pr) : L.mergeSort pLe = psort L := by
  have hp : (L.mergeSort pLe).Pairwise fun a b => pLe a b = true := List.pairwise_mergeSort (fun a b c h1 h2 => by
    unfold pLe at *
    rw [Bool.not_eq_true', prLt_false] at *
    omega) (fun a b => by
    unfold pLe
    rw [Bool.or_eq_true, Bool.not_eq_true', Bool.not_eq_true', prLt_false, prLt_false]
    omega) L
  have hp2 : (L.mergeSort pLe).Pairwise PrLe := hp.imp fun h => by unfold pLe at h; unfold PrLe; simpa using h
  have := psort_eq (List.mergeSort_perm L pLe)
  rw [← this]
  have key : ∀ l : List Pr, l.Pairwise PrLe → psort l = l := by
    intro l
    induction l with
    | nil => intro _; rfl
    | cons a l ih =>
      intro h
      have h' := List.pairwise_cons.mp h
      unfold psort
      rw [ih h'.2]
      cases l with
      | nil => rfl
      | cons b l =>
        unfold pins
        have := h'.1 b List.mem_cons_self
        unfold PrLe at this
        rw [this]
        rfl
  exact (key _ hp2).symm
theorem bSortN_pr {L : List Pr} (h : L.length ≤ 1000000) : bSortN [.lst (L.map prD)] = some (.lst ((psort L).map prD)) := by
  have hs : (L.map prD).mergeSort leD = (L.mergeSort pLe).map prD := (List.map_mergeSort fun a _ b _ => by unfold leD pLe; rw [lt_pr]).symm
  unfold bSortN
  simp only []
  rw [if_pos ⟨by rw [List.all_map]; exact List.all_eq_true.mpr fun _ _ => rfl, shL_map prD _ (fun t => by simp [prD, DEP, sh, shL, sh_int]) L, fun x hx y hy => by
    obtain ⟨a, _, rfl⟩ := List.mem_map.mp hx
    obtain ⟨b, _, rfl⟩ := List.mem_map.mp hy
    simp [prD, alkD, alkL], by simpa [LIM] using h⟩, hs, msort_eq]
theorem eqv_row (a b : List Pr) : eqv (rowD a) (rowD b) = decide (a = b) := by
  have key : ∀ a b : List Pr, eqvL (a.map prD) (b.map prD) = decide (a = b) := by
    intro a
    induction a with
    | nil => intro b; cases b <;> simp [eqvL]
    | cons x a ih =>
      intro b
      cases b with
      | nil => simp [eqvL]
      | cons y b => simp [eqvL, eqv_pr, ih b]
  show eqv (.tup (a.map prD)) (.tup (b.map prD)) = _
  unfold eqv
  exact key a b
theorem kyT_row (r : List Pr) : kyT (rowD r) = true := by
  show kyL 7 (r.map prD) = true
  induction r with
  | nil => rfl
  | cons x r ih =>
    have : ky 7 (prD x) = true := by simp [prD, ky, kyL]
    simp only [List.map_cons, kyL, this, ih, Bool.and_self]
/-- entries: looks, each with its place -/
def entK (l : List (List Pr)) : Ents := l.zipIdx.map fun x => (rowD x.1, .int ((x.2 : Nat) : Int))
theorem entK_snoc (l : List (List Pr)) (r : List Pr) : entK (l ++ [r]) = entK l ++ [(rowD r, .int (l.length : Int))] := by
  unfold entK
  rw [List.zipIdx_append, List.map_append]
  simp
theorem any_entK (l : List (List Pr)) (r : List Pr) : ((entK l).any fun p => eqv p.1 (rowD r)) = decide (r ∈ l) := by
  unfold entK
  rw [List.any_map, Bool.eq_iff_iff, List.any_eq_true, decide_eq_true_eq]
  simp only [Function.comp, eqv_row, decide_eq_true_eq]
  constructor
  · rintro ⟨x, hx, rfl⟩
    obtain ⟨i, hi⟩ := List.mem_iff_getElem?.mp hx
    rw [List.getElem?_zipIdx] at hi
    obtain ⟨y, hy, e⟩ := Option.map_eq_some_iff.mp hi
    rw [← e]; exact List.mem_of_getElem? hy
  · intro h
    obtain ⟨i, hi⟩ := List.mem_iff_getElem?.mp h
    exact ⟨(r, 0 + i), List.mem_iff_getElem?.mpr ⟨i, by rw [List.getElem?_zipIdx, hi]; rfl⟩, rfl⟩
theorem some_entK (l : List (List Pr)) (r : List Pr) : (getH (entK l) (rowD r)).isSome = decide (r ∈ l) := by
  rw [← any_entK]
  unfold getH
  rw [Option.isSome_map, Bool.eq_iff_iff, List.find?_isSome, List.any_eq_true]
theorem put_entK {l : List (List Pr)} {r : List Pr} (h : r ∉ l) : putH (entK l) (rowD r) (.int (l.length : Int)) = entK (l ++ [r]) := by
  unfold putH
  rw [any_entK, decide_eq_false h, entK_snoc]
  rfl
theorem len_entK (l : List (List Pr)) : (entK l).length = l.length := by simp [entK]
theorem get_entK {l : List (List Pr)} {r : List Pr} (h : r ∈ l) : getH (entK l) (rowD r) = some (.int (ixX l r : Int)) := by
  have key : ∀ (l : List (List Pr)) (j : Nat), r ∈ l → (((l.zipIdx j).map fun x => (rowD x.1, D.int ((x.2 : Nat) : Int))).find? fun p => eqv p.1 (rowD r)).map (·.2) = some (.int ((j + ixX l r : Nat) : Int)) := by
    intro l
    induction l with
    | nil => intro _ h; cases h
    | cons a l ih =>
      intro j hm
      rw [List.zipIdx_cons, List.map_cons, List.find?_cons]
      simp only [eqv_row]
      by_cases e : a = r
      · subst e
        simp [ixX, List.findIdx_cons]
      · rw [decide_eq_false e]
        have := ih (j + 1) ((List.mem_cons.mp hm).resolve_left fun z => e z.symm)
        rw [this]
        have e2 : ixX (a :: l) r = ixX l r + 1 := by simp [ixX, List.findIdx_cons, e]
        rw [e2]
        congr 3
        omega
  have := key l 0 h
  rw [Nat.zero_add] at this
  exact this
end G

end
section
/-! Rg: rings, and machines with edges to all; no program in sight. -/
namespace G
open Cr
def ringR (a : Nat) : Rows := (List.range a).map fun (k : Nat) => [((0 : Int), (((k + 1) % a : Nat) : Int))]
def pt (a b k : Nat) : Pr := (((k % a : Nat) : Int), ((k % b : Nat) : Int))
theorem ring_len (a : Nat) : (ringR a).length = a := by simp [ringR]
theorem ring_row {a : Nat} {q : Nat} (h : q < a) : rowAt (ringR a) (q : Int) = [((0 : Int), (((q + 1) % a : Nat) : Int))] := by
  unfold rowAt ringR
  rw [Int.toNat_natCast, List.getD_eq_getElem?_getD, List.getElem?_map, List.getElem?_range h]
  rfl
theorem ring_le (a : Nat) (q : Int) : (rowAt (ringR a) q).length ≤ 30 := by
  unfold rowAt
  rw [List.getD_eq_getElem?_getD]
  cases h : (ringR a)[q.toNat]? with
  | none => simp
  | some r =>
    obtain ⟨k, _, rfl⟩ := List.mem_map.mp (List.mem_of_getElem? h)
    simp
theorem ring_mc {a : Nat} (h1 : 1 ≤ a) (h : a ≤ 400) : OkMc 1 (ringR a) := by
  refine ⟨by decide, by rw [ring_len]; exact h1, by rw [ring_len]; exact h, ?_, fun r hr => ?_⟩
  · have : (ringR a).map List.length = List.replicate a 1 := by
      unfold ringR
      rw [List.map_map]
      apply List.ext_getElem?
      intro i
      by_cases hi : i < a
      · simp [hi]
      · simp [hi]
    rw [this, List.sum_replicate_nat]; omega
  · obtain ⟨k, hk, rfl⟩ := List.mem_map.mp hr
    rw [ring_len]
    have := Nat.mod_lt (k + 1) (show a > 0 by omega)
    exact ⟨fun e he => by rw [List.mem_singleton.mp he]; exact ⟨by simp, by simp⟩, fun e he => by rw [List.mem_singleton.mp he]; exact ⟨by simp only []; omega, by simp only []; omega⟩, List.pairwise_singleton _ _⟩
section
variable {a b : Nat} (ha : 1 ≤ a) (hb : 1 ≤ b)
include ha hb
theorem ring_ed (k : Nat) : edM (ringR a) (ringR b) (pt a b k) = [(0, pt a b (k + 1))] := by
  have h1 := Nat.mod_lt k (show a > 0 by omega)
  have h2 := Nat.mod_lt k (show b > 0 by omega)
  unfold edM
  rw [show rowAt (ringR a) (pt a b k).1 = _ from ring_row h1, show rowAt (ringR b) (pt a b k).2 = _ from ring_row h2]
  simp [pt, Nat.add_mod]
theorem ring_se (k : Nat) : seM (ringR a) (ringR b) (pt a b k) = [(0, pt a b (k + 1))] := by
  unfold seM
  rw [ring_ed ha hb]
  exact List.mergeSort_singleton _
theorem pt_inj {i j : Nat} (hij : i < j) (h : pt a b i = pt a b j) : Nat.lcm a b ∣ j - i := by
  unfold pt at h
  simp only [Prod.mk.injEq, Int.natCast_inj] at h
  exact Nat.lcm_dvd (Nat.dvd_of_mod_eq_zero (Nat.sub_mod_eq_zero_of_mod_eq h.1.symm)) (Nat.dvd_of_mod_eq_zero (Nat.sub_mod_eq_zero_of_mod_eq h.2.symm))
theorem pt_lcm : pt a b (Nat.lcm a b) = pt a b 0 := by
  unfold pt
  rw [Nat.mod_eq_zero_of_dvd (Nat.dvd_lcm_left a b), Nat.mod_eq_zero_of_dvd (Nat.dvd_lcm_right a b)]
  simp
theorem lcm_pos' : 0 < Nat.lcm a b := Nat.lcm_pos (by omega) (by omega)
theorem ring_it : ∀ k, k < Nat.lcm a b → itB (ringR a) (ringR b) k = (List.range (k + 1)).map (pt a b)
  | 0, _ => by simp [itB, pt]
  | k + 1, h => by
    have ih := ring_it k (by omega)
    have hl : k < (itB (ringR a) (ringR b) k).length := by rw [ih]; simp
    rw [itB_on hl]
    unfold stepP
    rw [ih]
    have hg : ((List.range (k + 1)).map (pt a b)).getD k (0, 0) = pt a b k := by
      rw [List.getD_eq_getElem?_getD, List.getElem?_map, List.getElem?_range (by omega)]; rfl
    rw [hg, ring_se ha hb]
    have hn : pt a b (k + 1) ∉ (List.range (k + 1)).map (pt a b) := fun z => by
      obtain ⟨j, hj, e⟩ := List.mem_map.mp z
      have hj := List.mem_range.mp hj
      have := Nat.le_of_dvd (by omega) (pt_inj ha hb hj e)
      omega
    rw [List.range_succ (n := k + 1), List.map_append]
    simp only [List.map_cons, List.map_nil, List.foldl_cons, List.foldl_nil]
    unfold addP
    rw [if_neg hn]
theorem ring_end : itB (ringR a) (ringR b) (Nat.lcm a b) = (List.range (Nat.lcm a b)).map (pt a b) := by
  have hp := lcm_pos' ha hb
  obtain ⟨m, hm⟩ : ∃ m, Nat.lcm a b = m + 1 := ⟨Nat.lcm a b - 1, by omega⟩
  have ih := ring_it ha hb m (by omega)
  have hl : m < (itB (ringR a) (ringR b) m).length := by rw [ih]; simp
  have h0 := pt_lcm ha hb
  rw [hm] at h0 ⊢
  rw [itB_on hl]
  unfold stepP
  rw [ih]
  have hg : ((List.range (m + 1)).map (pt a b)).getD m (0, 0) = pt a b m := by
    rw [List.getD_eq_getElem?_getD, List.getElem?_map, List.getElem?_range (by omega)]; rfl
  rw [hg, ring_se ha hb]
  simp only [List.map_cons, List.map_nil, List.foldl_cons, List.foldl_nil]
  unfold addP
  rw [if_pos]
  rw [h0]
  exact List.mem_map.mpr ⟨0, List.mem_range.mpr (by omega), rfl⟩
end
/-- the first multiple of a that is one of b -/
theorem lcm_first {a b k : Nat} (ha : 1 ≤ a) (hb : 1 ≤ b) (hk : 1 ≤ k) (h : b ∣ a * k) (hf : ∀ i, 1 ≤ i → i < k → ¬ b ∣ a * i) : a * k = Nat.lcm a b := by
  have h1 : Nat.lcm a b ∣ a * k := Nat.lcm_dvd (Nat.dvd_mul_right a k) h
  obtain ⟨c, hc⟩ := Nat.dvd_lcm_left a b
  have hp := Nat.lcm_pos (show 0 < a by omega) (show 0 < b by omega)
  have hc1 : 1 ≤ c := by
    rcases Nat.eq_zero_or_pos c with z | z
    · rw [z] at hc; omega
    · exact z
  have hck : k ≤ c := Nat.le_of_not_lt fun z => hf c hc1 z (by rw [← hc]; exact Nat.dvd_lcm_right a b)
  have h2 : a * k ≤ a * c := Nat.mul_le_mul_left a hck
  have h3 := Nat.le_of_dvd (Nat.mul_pos (by omega) (by omega)) h1
  omega
/-! ### the great ring with itself, or its half -/
theorem ix_map {f : Nat → Pr} {m k : Nat} (hn : ((List.range m).map f).Nodup) (hk : k < m) : ixP ((List.range m).map f) (f k) = k := ix_of hn (by rw [List.getElem?_map, List.getElem?_range hk]; rfl)
theorem pt_nd {a b : Nat} (ha : 1 ≤ a) (hb : 1 ≤ b) : ((List.range (Nat.lcm a b)).map (pt a b)).Nodup := by
  rw [← ring_end ha hb]; exact itB_nd _
theorem ring_rows {a b : Nat} (ha : 1 ≤ a) (hb : 1 ≤ b) (hd : b ∣ a) : rowsP (ringR a) (ringR b) ((List.range (Nat.lcm a b)).map (pt a b)) = ringR a := by
  have hl : Nat.lcm a b = a := Nat.dvd_antisymm (Nat.lcm_dvd (Nat.dvd_refl a) hd) (Nat.dvd_lcm_left a b)
  have hn := pt_nd ha hb
  rw [hl] at hn ⊢
  unfold rowsP
  rw [List.map_map]
  unfold ringR
  refine List.map_congr_left fun k hk => ?_
  have hk := List.mem_range.mp hk
  show rowP _ (edM (ringR a) (ringR b) (pt a b k)) = _
  rw [ring_ed ha hb]
  have e : pt a b (k + 1) = pt a b ((k + 1) % a) := by
    unfold pt
    rw [Nat.mod_mod, Nat.mod_mod_of_dvd _ hd]
  have hlt := Nat.mod_lt (k + 1) (show a > 0 by omega)
  have hix : ixP ((List.range a).map (pt a b)) (pt a b (k + 1)) = (k + 1) % a := by rw [e, ix_map hn hlt]
  unfold rowP
  rw [List.map_singleton, hix]
  rfl
theorem ring_sum {a b : Nat} (ha : 1 ≤ a) (hb : 1 ≤ b) (m : Nat) : (((List.range m).map (pt a b)).map fun p => (edM (ringR a) (ringR b) p).length).sum = m := by
  have : (((List.range m).map (pt a b)).map fun p => (edM (ringR a) (ringR b) p).length) = List.replicate m 1 := by
    rw [List.map_map]
    apply List.ext_getElem?
    intro i
    by_cases hi : i < m
    · simp [hi, ring_ed ha hb]
    · simp [hi]
  rw [this, List.sum_replicate_nat]; omega
/-! ### edges to all -/
def fullRow (s : Nat) : List Pr := (List.range s).map fun (x : Nat) => ((0 : Int), (x : Int))
def fullR (s : Nat) : Rows := List.replicate s (fullRow s)
theorem full_len (s : Nat) : (fullR s).length = s := by simp [fullR]
theorem full_row {s : Nat} {q : Int} (h : 0 ≤ q ∧ q < s) : rowAt (fullR s) q = fullRow s := by
  unfold rowAt fullR
  rw [List.getD_eq_getElem?_getD, List.getElem?_replicate, if_pos (by omega)]; rfl
theorem full_le {s : Nat} (h : s ≤ 30) (q : Int) : (rowAt (fullR s) q).length ≤ 30 := by
  unfold rowAt fullR
  rw [List.getD_eq_getElem?_getD, List.getElem?_replicate]
  split <;> simp [fullRow, h]
theorem full_mc {s : Nat} (h1 : 1 ≤ s) (h : s ≤ 30) : OkMc 1 (fullR s) := by
  refine ⟨by decide, by rw [full_len]; exact h1, by rw [full_len]; omega, ?_, fun r hr => ?_⟩
  · unfold fullR
    rw [List.map_replicate, List.sum_replicate_nat]
    have : (fullRow s).length = s := by simp [fullRow]
    rw [this]
    exact Nat.le_trans (Nat.mul_le_mul h h) (by decide)
  · rw [(List.mem_replicate.mp hr).2, full_len]
    refine ⟨fun e he => ?_, fun e he => ?_, ?_⟩
    · obtain ⟨x, hx, rfl⟩ := List.mem_map.mp he
      exact ⟨by simp, by simp⟩
    · obtain ⟨x, hx, rfl⟩ := List.mem_map.mp he
      have := List.mem_range.mp hx
      exact ⟨by simp only []; omega, by simp only []; omega⟩
    · unfold fullRow
      exact List.Pairwise.map _ (fun x y h => prLt_iff.mpr (.inr ⟨rfl, by simp only []; omega⟩)) List.pairwise_lt_range
theorem full_ed {s : Nat} {p : Pr} (g : Gr (fullR s) (fullR s) p) {t : Tr} : t ∈ edM (fullR s) (fullR s) p ↔ t.1 = 0 ∧ Gr (fullR s) (fullR s) t.2 := by
  obtain ⟨g1, g2⟩ := g
  rw [full_len] at g1 g2
  rw [ed_mem, full_row g1, full_row g2]
  obtain ⟨a, x, y⟩ := t
  unfold fullRow Gr
  rw [full_len]
  simp only [List.mem_map, List.mem_range, Prod.mk.injEq]
  constructor
  · rintro ⟨⟨i, hi, rfl, rfl⟩, ⟨j, hj, _, rfl⟩⟩
    exact ⟨rfl, ⟨by omega, by omega⟩, by omega, by omega⟩
  · rintro ⟨rfl, ⟨h1, h2⟩, h3, h4⟩
    exact ⟨⟨x.toNat, by omega, rfl, by omega⟩, y.toNat, by omega, rfl, by omega⟩
theorem full_edl {s : Nat} {p : Pr} (g : Gr (fullR s) (fullR s) p) : (edM (fullR s) (fullR s) p).length = s * s := by
  obtain ⟨g1, g2⟩ := g
  rw [full_len] at g1 g2
  unfold edM
  rw [full_row g1, full_row g2]
  have hf : ∀ e ∈ fullRow s, ((fullRow s).filter fun f => decide (e.1 = f.1)) = fullRow s := fun e he => List.filter_eq_self.mpr fun f hf => by
    obtain ⟨i, _, rfl⟩ := List.mem_map.mp he
    obtain ⟨j, _, rfl⟩ := List.mem_map.mp hf
    simp
  have hlen : (fullRow s).length = s := by simp [fullRow]
  have key : ∀ (l : List Pr), (∀ e ∈ l, e ∈ fullRow s) → (l.flatMap fun e => ((fullRow s).filter fun f => decide (e.1 = f.1)).map fun f => (e.1, e.2, f.2)).length = l.length * s := by
    intro l
    induction l with
    | nil => simp
    | cons e l ih =>
      intro h
      rw [List.flatMap_cons, List.length_append, List.length_map, hf e (h e List.mem_cons_self), hlen, ih fun x hx => h x (List.mem_cons_of_mem _ hx), List.length_cons, Nat.add_mul, Nat.one_mul, Nat.add_comm]
  rw [key _ fun _ h => h, hlen]
theorem nd_sub' {α : Type} [BEq α] [LawfulBEq α] : ∀ {l m : List α}, l.Nodup → (∀ x ∈ l, x ∈ m) → l.length ≤ m.length
  | [], _, _, _ => Nat.zero_le _
  | a :: l, m, h, hs => by
    have h' := List.nodup_cons.mp h
    have ha := hs a List.mem_cons_self
    have := nd_sub' (m := m.erase a) h'.2 fun x hx => (List.mem_erase_of_ne (fun (z : x = a) => h'.1 (z ▸ hx))).mpr (hs x (List.mem_cons_of_mem _ hx))
    rw [List.length_erase_of_mem ha] at this
    have := List.length_pos_of_mem ha
    simp only [List.length_cons]
    omega
/-- all pairs are found -/
theorem full_all {s : Nat} (h1 : 1 ≤ s) (h : s ≤ 30) {k : Nat} (hk : (itB (fullR s) (fullR s) k).length ≤ k) : (itB (fullR s) (fullR s) k).length = s * s := by
  have ok := full_mc h1 h
  have h2 := itB_le ok ok k
  rw [full_len] at h2
  have hpos := itB_pos (A := fullR s) (B := fullR s) k
  have hgr := itB_gr ok ok k
  have g0 : Gr (fullR s) (fullR s) ((itB (fullR s) (fullR s) k).getD 0 (0, 0)) := by
    rw [List.getD_eq_getElem?_getD, List.getElem?_eq_getElem (by omega)]
    exact hgr _ (List.getElem_mem _)
  have hcl := itB_cl (A := fullR s) (B := fullR s) k 0 (by omega) (by omega)
  have hall : ∀ p, Gr (fullR s) (fullR s) p → p ∈ itB (fullR s) (fullR s) k := fun p hp => hcl (0, p) ((full_ed g0).mpr ⟨rfl, hp⟩)
  have hn : ((edM (fullR s) (fullR s) ((itB (fullR s) (fullR s) k).getD 0 (0, 0))).map (·.2)).Nodup := by
    obtain ⟨g1, g2⟩ := g0
    rw [full_len] at g1 g2
    unfold edM
    rw [full_row g1, full_row g2]
    have key : ∀ (l : List Pr), l.Nodup → (∀ e ∈ l, e ∈ fullRow s) → ((l.flatMap fun e => ((fullRow s).filter fun f => decide (e.1 = f.1)).map fun f => (e.1, e.2, f.2)).map (·.2)).Nodup := by
      intro l
      induction l with
      | nil => intro _ _; simp
      | cons e l ih =>
        intro hn hm
        have hn' := List.nodup_cons.mp hn
        rw [List.flatMap_cons, List.map_append]
        refine List.nodup_append.mpr ⟨?_, ih hn'.2 fun x hx => hm x (List.mem_cons_of_mem _ hx), ?_⟩
        · rw [List.map_map]
          refine nd_map (fun p hp q hq z => ?_) (List.Nodup.sublist List.filter_sublist ?_)
          · obtain ⟨i, _, rfl⟩ := List.mem_map.mp (List.mem_filter.mp hp).1
            obtain ⟨j, _, rfl⟩ := List.mem_map.mp (List.mem_filter.mp hq).1
            simp only [Function.comp, Prod.mk.injEq] at z
            rw [z.2]
          · unfold fullRow
            exact nd_map (fun i _ j _ z => by simp only [Prod.mk.injEq] at z; omega) List.nodup_range
        · rintro x hx y hy rfl
          obtain ⟨t, ht, rfl⟩ := List.mem_map.mp hx
          obtain ⟨f, _, rfl⟩ := List.mem_map.mp ht
          obtain ⟨u, hu, e2⟩ := List.mem_map.mp hy
          obtain ⟨e', he', hu'⟩ := List.mem_flatMap.mp hu
          obtain ⟨f', _, rfl⟩ := List.mem_map.mp hu'
          simp only [Prod.mk.injEq] at e2
          obtain ⟨i, _, rfl⟩ := List.mem_map.mp (hm e List.mem_cons_self)
          obtain ⟨j, _, rfl⟩ := List.mem_map.mp (hm e' (List.mem_cons_of_mem _ he'))
          simp only at e2
          rw [e2.1] at he'
          exact hn'.1 he'
    exact key _ (by unfold fullRow; exact nd_map (fun i _ j _ z => by simp only [Prod.mk.injEq] at z; omega) List.nodup_range) fun _ h => h
  have h3 := nd_sub' hn (m := itB (fullR s) (fullR s) k) fun x hx => by
    obtain ⟨t, ht, rfl⟩ := List.mem_map.mp hx
    exact hall _ ((full_ed g0).mp ht).2
  rw [List.length_map, full_edl g0] at h3
  omega
end G

end
section

end
section
namespace G
open Cr
open PySem (Str)
def c_MOST_LETTERS : M D := cst (.int 5)
def c_MOST_ROWS : M D := cst (.int 400)
def c_MOST_EDGES : M D := cst (.int 6000)
def f__law_box : Fn := fnOf [false] false 2
  (retS (lstE [(cst (.int 0)), (cst (.int 0)), (cst (.int 0)), (lcE [1] (itE (rd 0)) (tgN 1) (pu true) (callB bAbs [(.d (callB bInt [(.d (rd 1))]))]))]))
def f__law_take : Fn := fnOf [true, false] true 5
  (seqS (ifS (tstB (bin gEq (.d (bin gIx (.o 0) (.d (cst (.int 1))))) (.d (cst (.int 0)))))
  (seqS (asg (bin gIx (.o 0) (.d (cst (.int 2)))) (tgN 2))
  (seqS (asg (cst (.int 0)) (tgN 3))
  (seqS (ifS (tstB (bin gLt (.d (rd 2)) (.d (callB bLen [(.d (bin gIx (.o 0) (.d (cst (.int 3)))))]))))
  (seqS (asg (bin gIx (.d (bin gIx (.o 0) (.d (cst (.int 3))))) (.d (rd 2))) (tgN 3))
  (setS 0 (cst (.int 1)) (ifE (tstB (bin gGe (.d (rd 3)) (.d (bin gPow (.d (cst (.int 10))) (.d (cst (.int 18))))))) (cst (.int 60)) (un gNeg (.d (cst (.int 9)))))))
  Cr.nx)
  (seqS (setS 0 (cst (.int 2)) (bin Cr.gAdd (.d (rd 2)) (.d (cst (.int 1)))))
  (seqS (setS 0 (cst (.int 0)) (rd 3))
  (ifS (tstB (bin gEq (.d (bin gIx (.o 0) (.d (cst (.int 1))))) (.d (cst (.int 0)))))
  (retS (cst (.int 0)))
  Cr.nx))))))
  Cr.nx)
  (seqS (ifS (tstB (bin gGt (.d (bin gIx (.o 0) (.d (cst (.int 1))))) (.d (cst (.int 0)))))
  (seqS (asg (bin gMod (.d (callB bInt [(.d (bin gIx (.o 0) (.d (cst (.int 0)))))])) (.d (rd 1))) (tgN 4))
  (seqS (setS 0 (cst (.int 0)) (bin gFdv (.d (bin gIx (.o 0) (.d (cst (.int 0))))) (.d (rd 1))))
  (seqS (setS 0 (cst (.int 1)) (ifE (tstB (bin gGt (.d (bin gIx (.o 0) (.d (cst (.int 0))))) (.d (cst (.int 0))))) (bin Cr.gSub (.d (bin gIx (.o 0) (.d (cst (.int 1))))) (.d (cst (.int 1)))) (cst (.int 0))))
  (retS (rd 4)))))
  Cr.nx)
  (seqS (setS 0 (cst (.int 1)) (bin Cr.gAdd (.d (bin gIx (.o 0) (.d (cst (.int 1))))) (.d (cst (.int 1)))))
  (seqS (setS 0 (cst (.int 0)) (bin gMod (.d (callB bInt [(.d (bin Cr.gAdd (.d (bin gMul (.d (bin gIx (.o 0) (.d (cst (.int 0))))) (.d (cst (.int 48271))))) (.d (bin gMul (.d (cst (.int 69621))) (.d (bin Cr.gAdd (.d (bin gIx (.o 0) (.d (cst (.int 1))))) (.d (cst (.int 20)))))))))])) (.d (cst (.int 2147483647)))))
  (retS (bin gMod (.d (bin gMod (.d (callB bInt [(.d (bin Cr.gAdd (.d (bin gFdv (.d (bin gIx (.o 0) (.d (cst (.int 0))))) (.d (cst (.int 7))))) (.d (bin gIx (.o 0) (.d (cst (.int 0)))))))])) (.d (cst (.int 1000003))))) (.d (rd 1))))))))
def f__law_pick : Fn := fnOf [true, false] true 2
  (retS (bin gIx (.d (rd 1)) (.d (callF f__law_take [(.o 0), (.d (callB bLen [(.d (rd 1))]))]))))
def f__law_machine : Fn := fnOf [true, false, false] true 10
  (seqS (asg (bin Cr.gAdd (.d (cst (.int 1))) (.d (callF f__law_take [(.o 0), (.d (rd 2))]))) (tgN 3))
  (seqS (asg (lstE []) (tgN 4))
  (seqS (forS (itR rng1 [(.d (rd 3))]) (tgN 5)
  (seqS (asg (lstE []) (tgN 6))
  (seqS (forS (itR rng1 [(.d (rd 1))]) (tgN 7)
  (forS (itR rng1 [(.d (callF f__law_pick [(.o 0), (.d (lstE [(cst (.int 0)), (cst (.int 1)), (cst (.int 1)), (cst (.int 1)), (cst (.int 2))]))]))]) (tgN 8)
  (seqS (asg (callF f__law_take [(.o 0), (.d (rd 3))]) (tgN 9))
  (ifS (tstB (bin gNi (.d (tupE [(rd 7), (rd 9)])) (.o 6)))
  (appS 6 (tupE [(rd 7), (rd 9)]))
  Cr.nx))))
  (appS 4 (callB bTuple [(.d (callB bSortP [(.o 6)]))])))))
  (retS (tupE [(rd 1), (callB bTuple [(.o 4)])])))))
def f__law_twinned : Fn := fnOf [true, false] true 13
  (seqS (asg (callB bLen [(.d (bin gIx (.d (rd 1)) (.d (cst (.int 1)))))]) (tgN 2))
  (seqS (asg (callB bListR1 [(.d (rd 2))]) (tgN 3))
  (seqS (forS (itR rng1 [(.d (callF f__law_take [(.o 0), (.d (cst (.int 4)))]))]) (tgN 4)
  (appS 3 (callF f__law_take [(.o 0), (.d (rd 2))])))
  (seqS (asg (lstE [(cst (.int 0))]) (tgN 5))
  (seqS (forS (itR rng2 [(.d (cst (.int 1))), (.d (callB bLen [(.o 3)]))]) (tgN 4)
  (insS 5 (bin Cr.gAdd (.d (cst (.int 1))) (.d (callF f__law_take [(.o 0), (.d (callB bLen [(.o 5)]))]))) (rd 4)))
  (seqS (asg (lstE []) (tgN 6))
  (seqS (loopO 5 (tgN 4)
  (seqS (asg (lstE []) (tgN 7))
  (seqS (forS (itE (bin gIx (.d (bin gIx (.d (rd 1)) (.d (cst (.int 1))))) (.d (bin gIx (.o 3) (.d (rd 4)))))) (tgT [(tgN 8), (tgN 9)])
  (seqS (asg (lcE [11] (itR rng1 [(.d (callB bLen [(.o 5)]))]) (tgN 11) (tstB (bin gEq (.d (bin gIx (.o 3) (.d (bin gIx (.o 5) (.d (rd 11)))))) (.d (rd 9)))) (rd 11)) (tgN 10))
  (seqS (ifS (tstB (bin gEq (.d (callF f__law_take [(.o 0), (.d (cst (.int 2)))])) (.d (cst (.int 0)))))
  (asg (lstE [(callF f__law_pick [(.o 0), (.d (rd 10))])]) (tgN 10))
  Cr.nx)
  (asg (bin gAddL (.d (rd 7)) (.d (lcE [12] (itE (rd 10)) (tgN 12) (tstB (bin gNi (.d (tupE [(rd 8), (rd 12)])) (.d (rd 7)))) (tupE [(rd 8), (rd 12)])))) (tgN 7)))))
  (appS 6 (callB bTuple [(.d (callB bSortP [(.d (rd 7))]))])))) 1000000 0)
  (retS (tupE [(bin gIx (.d (rd 1)) (.d (cst (.int 0)))), (callB bTuple [(.o 6)])])))))))))
def f_is_whole : Fn := fnOf [false] true 1
  (retS (andV (un (gIsi .int) (.d (rd 0))) (notV (un (gIsi .bool) (.d (rd 0))))))
def f_is_within : Fn := fnOf [false, false, false] true 3
  (retS (andV (callF f_is_whole [(.d (rd 0))]) (chain gLe gLe (rd 1) (rd 0) (rd 2))))
def f_is_row : Fn := fnOf [false, false, false] true 5
  (seqS (ifS (notT (tstB (un (gIsi .tuple) (.d (rd 0)))))
  (retS (cst (.bl false)))
  Cr.nx)
  (seqS (asg (tupE [(un gNeg (.d (cst (.int 1)))), (un gNeg (.d (cst (.int 1))))]) (tgN 3))
  (seqS (forS (itE (rd 0)) (tgN 4)
  (seqS (ifS (orT (notT (tstB (un (gIsi .tuple) (.d (rd 4))))) (tstB (bin gNe (.d (callB bLen [(.d (rd 4))])) (.d (cst (.int 2))))))
  (retS (cst (.bl false)))
  Cr.nx)
  (seqS (ifS (orT (notT (tstB (callF f_is_within [(.d (bin gIx (.d (rd 4)) (.d (cst (.int 0))))), (.d (cst (.int 0))), (.d (bin Cr.gSub (.d (rd 1)) (.d (cst (.int 1)))))]))) (notT (tstB (callF f_is_within [(.d (bin gIx (.d (rd 4)) (.d (cst (.int 1))))), (.d (cst (.int 0))), (.d (bin Cr.gSub (.d (rd 2)) (.d (cst (.int 1)))))]))))
  (retS (cst (.bl false)))
  Cr.nx)
  (seqS (ifS (tstB (bin gLeT (.d (rd 4)) (.d (rd 3))))
  (retS (cst (.bl false)))
  Cr.nx)
  (asg (rd 4) (tgN 3))))))
  (retS (cst (.bl true))))))
def f_is_machine : Fn := fnOf [false] true 3
  (seqS (ifS (orT (notT (tstB (un (gIsi .tuple) (.d (rd 0))))) (orT (tstB (bin gNe (.d (callB bLen [(.d (rd 0))])) (.d (cst (.int 2))))) (notT (tstB (callF f_is_within [(.d (bin gIx (.d (rd 0)) (.d (cst (.int 0))))), (.d (cst (.int 0))), (.d c_MOST_LETTERS)])))))
  (retS (cst (.bl false)))
  Cr.nx)
  (seqS (asg (bin gIx (.d (rd 0)) (.d (cst (.int 1)))) (tgN 1))
  (seqS (ifS (orT (notT (tstB (un (gIsi .tuple) (.d (rd 1))))) (notT (tstB (chain gLe gLe (cst (.int 1)) (callB bLen [(.d (rd 1))]) c_MOST_ROWS))))
  (retS (cst (.bl false)))
  Cr.nx)
  (seqS (forS (itE (rd 1)) (tgN 2)
  (ifS (notT (tstB (callF f_is_row [(.d (rd 2)), (.d (bin gIx (.d (rd 0)) (.d (cst (.int 0))))), (.d (callB bLen [(.d (rd 1))]))])))
  (retS (cst (.bl false)))
  Cr.nx))
  (retS (bin gLe (.d (callB bSum [(.d (lcE [2] (itE (rd 1)) (tgN 2) (pu true) (callB bLen [(.d (rd 2))])))])) (.d c_MOST_EDGES)))))))
def f_check_machine : Fn := fnOf [false] true 1
  (ifS (notT (tstB (callF f_is_machine [(.d (rd 0))])))
  (raise 0)
  Cr.nx)
def f_check_machines : Fn := fnOf [false, false] true 2
  (seqS (exprS (callF f_check_machine [(.d (rd 0))]))
  (seqS (exprS (callF f_check_machine [(.d (rd 1))]))
  (ifS (tstB (bin gNe (.d (bin gIx (.d (rd 0)) (.d (cst (.int 0))))) (.d (bin gIx (.d (rd 1)) (.d (cst (.int 0)))))))
  (raise 2)
  Cr.nx)))
def f_recoloured : Fn := fnOf [false, false] true 9
  (seqS (asg (lcE [6] (itE (rd 0)) (tgN 6) (pu true) (callB bTuple [(.d (callB bSortN [(.d (callB bKeysH [(.d (dcHE [7, 8] (itE (rd 6)) (tgT [(tgN 7), (tgN 8)]) (pu true) (tupE [(rd 7), (bin gIx (.d (rd 1)) (.d (rd 8)))]) (cst (.bl true))))]))]))])) (tgN 2))
  (seqS (asg newH (tgN 3))
  (seqS (asg (lstE []) (tgN 4))
  (seqS (forS (itE (rd 2)) (tgN 5)
  (seqS (ifS (tstB (bin gHni (.d (rd 5)) (.o 3)))
  (putHS 3 (rd 5) (callB bLenH [(.o 3)]))
  Cr.nx)
  (appS 4 (bin gHix (.o 3) (.d (rd 5))))))
  (retO 4)))))
def f_alike : Fn := fnOf [false, false] true 10
  (seqS (exprS (callF f_check_machines [(.d (rd 0)), (.d (rd 1))]))
  (seqS (asg (callB bLen [(.d (bin gIx (.d (rd 0)) (.d (cst (.int 1)))))]) (tgN 2))
  (seqS (asg (bin gAddL (.d (callB bList [(.d (bin gIx (.d (rd 0)) (.d (cst (.int 1)))))])) (.d (lcE [6] (itE (bin gIx (.d (rd 1)) (.d (cst (.int 1))))) (tgN 6) (pu true) (callB bTuple [(.d (lcE [7, 8] (itE (rd 6)) (tgT [(tgN 7), (tgN 8)]) (pu true) (tupE [(rd 7), (bin Cr.gAdd (.d (rd 8)) (.d (rd 2)))])))])))) (tgN 3))
  (seqS (asg (lcE [9] (itE (rd 3)) (tgN 9) (pu true) (cst (.int 0))) (tgN 4))
  (seqS (asg (cst (.int 1)) (tgN 5))
  (whileN FUEL (tstB (cst (.bl true)))
  (seqS (asg (callF f_recoloured [(.d (rd 3)), (.d (rd 4))]) (tgN 4))
  (seqS (ifS (tstB (bin gEq (.d (bin Cr.gAdd (.d (callB bMaxL [(.d (rd 4))])) (.d (cst (.int 1))))) (.d (rd 5))))
  (retS (bin gEq (.d (bin gIx (.d (rd 4)) (.d (cst (.int 0))))) (.d (bin gIx (.d (rd 4)) (.d (rd 2))))))
  Cr.nx)
  (asg (bin Cr.gAdd (.d (callB bMaxL [(.d (rd 4))])) (.d (cst (.int 1)))) (tgN 5))))))))))
def f__law_turned : Fn := fnOf [true, false] true 5
  (seqS (asg (callF f__law_take [(.o 0), (.d (callB bLen [(.d (bin gIx (.d (rd 1)) (.d (cst (.int 1)))))]))]) (tgN 2))
  (seqS (asg (bin gIx (.d (bin gIx (.d (rd 1)) (.d (cst (.int 1))))) (.d (rd 2))) (tgN 3))
  (seqS (ifS (andT (tru (.d (rd 3))) (tstB (bin gEq (.d (callF f__law_take [(.o 0), (.d (cst (.int 2)))])) (.d (cst (.int 0))))))
  (seqS (asg (callF f__law_take [(.o 0), (.d (callB bLen [(.d (rd 3))]))]) (tgN 4))
  (asg (bin Cr.gAdd (.d (slE (.d (rd 3)) none (some (rd 4)))) (.d (slE (.d (rd 3)) (some (bin Cr.gAdd (.d (rd 4)) (.d (cst (.int 1))))) none))) (tgN 3)))
  (ifS (tstB (bin gGt (.d (bin gIx (.d (rd 1)) (.d (cst (.int 0))))) (.d (cst (.int 0)))))
  (asg (callB bTuple [(.d (callB bSetP [(.d (bin gAddL (.d (callB bList [(.d (rd 3))])) (.d (lstE [(tupE [(callF f__law_take [(.o 0), (.d (bin gIx (.d (rd 1)) (.d (cst (.int 0)))))]), (callF f__law_take [(.o 0), (.d (callB bLen [(.d (bin gIx (.d (rd 1)) (.d (cst (.int 1)))))]))])])]))))]))]) (tgN 3))
  Cr.nx))
  (retS (tupE [(bin gIx (.d (rd 1)) (.d (cst (.int 0)))), (bin Cr.gAdd (.d (bin Cr.gAdd (.d (slE (.d (bin gIx (.d (rd 1)) (.d (cst (.int 1))))) none (some (rd 2)))) (.d (tupE [(rd 3)])))) (.d (slE (.d (bin gIx (.d (rd 1)) (.d (cst (.int 1))))) (some (bin Cr.gAdd (.d (rd 2)) (.d (cst (.int 1))))) none)))])))))
def f__law_row_holds : Fn := fnOf [false, false, false, false, false] true 9
  (seqS (forS (itE (bin gIx (.d (bin gIx (.d (rd 0)) (.d (cst (.int 1))))) (.d (rd 1)))) (tgT [(tgN 5), (tgN 6)])
  (ifS (tstB (bin gEq (.d (lcE [8, 7] (itE (bin gIx (.d (bin gIx (.d (rd 2)) (.d (cst (.int 1))))) (.d (rd 3)))) (tgT [(tgN 8), (tgN 7)]) (andT (tstB (bin gEq (.d (rd 8)) (.d (rd 5)))) (tstB (bin gIn (.d (tupE [(rd 6), (rd 7)])) (.d (rd 4))))) (rd 7))) (.d (lstE []))))
  (retS (cst (.bl false)))
  Cr.nx))
  (seqS (forS (itE (bin gIx (.d (bin gIx (.d (rd 2)) (.d (cst (.int 1))))) (.d (rd 3)))) (tgT [(tgN 5), (tgN 7)])
  (ifS (tstB (bin gEq (.d (lcE [8, 6] (itE (bin gIx (.d (bin gIx (.d (rd 0)) (.d (cst (.int 1))))) (.d (rd 1)))) (tgT [(tgN 8), (tgN 6)]) (andT (tstB (bin gEq (.d (rd 8)) (.d (rd 5)))) (tstB (bin gIn (.d (tupE [(rd 6), (rd 7)])) (.d (rd 4))))) (rd 6))) (.d (lstE []))))
  (retS (cst (.bl false)))
  Cr.nx))
  (retS (cst (.bl true)))))
def f__law_alike : Fn := fnOf [false, false] true 8
  (seqS (asg (lstE []) (tgN 2))
  (seqS (forS (itR rng1 [(.d (callB bLen [(.d (bin gIx (.d (rd 0)) (.d (cst (.int 1)))))]))]) (tgN 3)
  (asg (bin gAddL (.d (rd 2)) (.d (lcE [6] (itR rng1 [(.d (callB bLen [(.d (bin gIx (.d (rd 1)) (.d (cst (.int 1)))))]))]) (tgN 6) (pu true) (tupE [(rd 3), (rd 6)])))) (tgN 2)))
  (seqS (forS (itR rng1 [(.d (bin Cr.gAdd (.d (bin gMul (.d (callB bLen [(.d (bin gIx (.d (rd 0)) (.d (cst (.int 1)))))])) (.d (callB bLen [(.d (bin gIx (.d (rd 1)) (.d (cst (.int 1)))))])))) (.d (cst (.int 1)))))]) (tgN 4)
  (seqS (asg (lcE [7] (itE (rd 2)) (tgN 7) (tstB (callF f__law_row_holds [(.d (rd 0)), (.d (bin gIx (.d (rd 7)) (.d (cst (.int 0))))), (.d (rd 1)), (.d (bin gIx (.d (rd 7)) (.d (cst (.int 1))))), (.d (rd 2))])) (rd 7)) (tgN 5))
  (seqS (ifS (tstB (bin gEq (.d (callB bLen [(.d (rd 5))])) (.d (callB bLen [(.d (rd 2))]))))
  (retS (bin gIn (.d (tupE [(cst (.int 0)), (cst (.int 0))])) (.d (rd 2))))
  Cr.nx)
  (asg (rd 5) (tgN 2)))))
  (retS (bin gIn (.d (tupE [(cst (.int 0)), (cst (.int 0))])) (.d (rd 2)))))))
def f__law_ring : Fn := fnOf [false] true 2
  (retS (tupE [(cst (.int 1)), (callB bTuple [(.d (lcE [1] (itR rng1 [(.d (rd 0))]) (tgN 1) (pu true) (tupE [(tupE [(cst (.int 0)), (bin gMod (.d (callB bInt [(.d (bin Cr.gAdd (.d (rd 1)) (.d (cst (.int 1)))))])) (.d (rd 0)))])])))])]))
def f__law_rings : Fn := fnOf [true] true 4
  (seqS (asg (tupE [(bin Cr.gAdd (.d (cst (.int 1))) (.d (callF f__law_take [(.o 0), (.d (cst (.int 40)))]))), (bin Cr.gAdd (.d (cst (.int 1))) (.d (callF f__law_take [(.o 0), (.d (cst (.int 40)))])))]) (tgT [(tgN 1), (tgN 2)]))
  (seqS (asg (callF f__law_ring [(.d (rd 2))]) (tgN 3))
  (seqS (asg (tupE [(cst (.int 1)), (bin Cr.gAdd (.d (slE (.d (bin gIx (.d (rd 3)) (.d (cst (.int 1))))) none (some (bin Cr.gSub (.d (rd 2)) (.d (cst (.int 1))))))) (.d (tupE [(tupE [])])))]) (tgN 3))
  (retS (andV (bin gIsB (.d (callF f_alike [(.d (callF f__law_ring [(.d (rd 1))])), (.d (callF f__law_ring [(.d (rd 2))]))])) (.d (cst (.bl true)))) (andV (bin gIsB (.d (callF f_alike [(.d (callF f__law_ring [(.d (rd 1))])), (.d (rd 3))])) (.d (cst (.bl false)))) (bin gIsB (.d (callF f_alike [(.d (rd 3)), (.d (rd 3))])) (.d (cst (.bl true))))))))))
def f_law : Fn := fnOf [false] true 7
  (seqS (asg (callF f__law_box [(.d (rd 0))]) (tgN 1))
  (seqS (asg (callF f__law_take [(.o 1), (.d (cst (.int 6)))]) (tgN 2))
  (seqS (asg (callF f__law_machine [(.o 1), (.d (rd 2)), (.d (cst (.int 5)))]) (tgN 3))
  (seqS (asg (callF f__law_twinned [(.o 1), (.d (rd 3))]) (tgN 4))
  (seqS (ifS (orT (tstB (bin gNoB (.d (callF f_alike [(.d (rd 3)), (.d (rd 4))])) (.d (cst (.bl true))))) (orT (tstB (bin gNoB (.d (callF f_alike [(.d (rd 4)), (.d (rd 3))])) (.d (cst (.bl true))))) (tstB (bin gNoB (.d (callF f_alike [(.d (rd 3)), (.d (rd 3))])) (.d (cst (.bl true)))))))
  (retS (cst (.bl false)))
  Cr.nx)
  (seqS (asg (callF f__law_turned [(.o 1), (.d (callF f__law_pick [(.o 1), (.d (lstE [(rd 3), (rd 4), (callF f__law_machine [(.o 1), (.d (rd 2)), (.d (cst (.int 5)))])]))]))]) (tgN 5))
  (seqS (asg (callF f__law_alike [(.d (rd 3)), (.d (rd 5))]) (tgN 6))
  (retS (andV (reprC false (.d (callF f_alike [(.d (rd 3)), (.d (rd 5))])) (.d (rd 6))) (andV (reprC false (.d (callF f_alike [(.d (rd 5)), (.d (rd 3))])) (.d (rd 6))) (callF f__law_rings [(.o 1)])))))))))))
end G

end
section
set_option maxRecDepth 100000
set_option maxHeartbeats 4000000
namespace G
open PySem PySem.Spec PyProof.Rows L2 Cr Lk
def top (i : Nat) : Stmt := PySem.Challenge.pw_spandrel_k06_machines_that_are_alike.main.body.getD i (.Pass ⟨0, 0, 0, 0⟩)
abbrev s__law_box : Stmt := top 18
theorem sc__law_box : FnScope ["_law_script", "_law_x"] ["_law_script"] (defScope s__law_box) := ⟨rfl, rfl, rfl, by decide +kernel, rfl, by decide +kernel, by decide +kernel⟩
abbrev s__law_take : Stmt := top 19
theorem sc__law_take : FnScope ["_law_box_here", "_law_m", "_law_at", "_law_cell", "_law_told"] ["_law_box_here", "_law_m"] (defScope s__law_take) := ⟨rfl, rfl, rfl, by decide +kernel, rfl, by decide +kernel, by decide +kernel⟩
abbrev s__law_pick : Stmt := top 20
theorem sc__law_pick : FnScope ["_law_box_here", "_law_menu"] ["_law_box_here", "_law_menu"] (defScope s__law_pick) := ⟨rfl, rfl, rfl, by decide +kernel, rfl, by decide +kernel, by decide +kernel⟩
abbrev s__law_machine : Stmt := top 22
theorem sc__law_machine : FnScope ["_law_box_here", "_law_n", "_law_most", "_law_size", "_law_rows", "_law_p", "_law_edges", "_law_a", "_law_k", "_law_to"] ["_law_box_here", "_law_n", "_law_most"] (defScope s__law_machine) := ⟨rfl, rfl, rfl, by decide +kernel, rfl, by decide +kernel, by decide +kernel⟩
abbrev s__law_twinned : Stmt := top 31
theorem sc__law_twinned : FnScope ["_law_box_here", "_law_m", "_law_size", "_law_home", "_law_k", "_law_places", "_law_rows", "_law_edges", "_law_a", "_law_to", "_law_spots", "_law_j", "_law_spot"] ["_law_box_here", "_law_m"] (defScope s__law_twinned) := ⟨rfl, rfl, rfl, by decide +kernel, rfl, by decide +kernel, by decide +kernel⟩
abbrev s_is_whole : Stmt := top 5
theorem sc_is_whole : FnScope ["x"] ["x"] (defScope s_is_whole) := ⟨rfl, rfl, rfl, by decide +kernel, rfl, by decide +kernel, by decide +kernel⟩
abbrev s_is_within : Stmt := top 6
theorem sc_is_within : FnScope ["x", "low", "high"] ["x", "low", "high"] (defScope s_is_within) := ⟨rfl, rfl, rfl, by decide +kernel, rfl, by decide +kernel, by decide +kernel⟩
abbrev s_is_row : Stmt := top 11
theorem sc_is_row : FnScope ["row", "n", "many", "before", "edge"] ["row", "n", "many"] (defScope s_is_row) := ⟨rfl, rfl, rfl, by decide +kernel, rfl, by decide +kernel, by decide +kernel⟩
abbrev s_is_machine : Stmt := top 12
theorem sc_is_machine : FnScope ["m", "rows", "row"] ["m"] (defScope s_is_machine) := ⟨rfl, rfl, rfl, by decide +kernel, rfl, by decide +kernel, by decide +kernel⟩
abbrev s_check_machine : Stmt := top 13
theorem sc_check_machine : FnScope ["m"] ["m"] (defScope s_check_machine) := ⟨rfl, rfl, rfl, by decide +kernel, rfl, by decide +kernel, by decide +kernel⟩
abbrev s_check_machines : Stmt := top 14
theorem sc_check_machines : FnScope ["a", "b"] ["a", "b"] (defScope s_check_machines) := ⟨rfl, rfl, rfl, by decide +kernel, rfl, by decide +kernel, by decide +kernel⟩
abbrev s_recoloured : Stmt := top 15
theorem sc_recoloured : FnScope ["rows", "colours", "looks", "numbers", "found", "look", "row", "letter", "to"] ["rows", "colours"] (defScope s_recoloured) := ⟨rfl, rfl, rfl, by decide +kernel, rfl, by decide +kernel, by decide +kernel⟩
abbrev s_alike : Stmt := top 16
theorem sc_alike : FnScope ["a", "b", "shift", "rows", "colours", "many", "row", "letter", "to", "_"] ["a", "b"] (defScope s_alike) := ⟨rfl, rfl, rfl, by decide +kernel, rfl, by decide +kernel, by decide +kernel⟩
abbrev s__law_turned : Stmt := top 32
theorem sc__law_turned : FnScope ["_law_box_here", "_law_m", "_law_at", "_law_row", "_law_k"] ["_law_box_here", "_law_m"] (defScope s__law_turned) := ⟨rfl, rfl, rfl, by decide +kernel, rfl, by decide +kernel, by decide +kernel⟩
abbrev s__law_row_holds : Stmt := top 29
theorem sc__law_row_holds : FnScope ["_law_one", "_law_p", "_law_two", "_law_q", "_law_left", "_law_a", "_law_x", "_law_y", "_law_b"] ["_law_one", "_law_p", "_law_two", "_law_q", "_law_left"] (defScope s__law_row_holds) := ⟨rfl, rfl, rfl, by decide +kernel, rfl, by decide +kernel, by decide +kernel⟩
abbrev s__law_alike : Stmt := top 30
theorem sc__law_alike : FnScope ["_law_one", "_law_two", "_law_left", "_law_p", "_law_turn", "_law_kept", "_law_q", "_law_pair"] ["_law_one", "_law_two"] (defScope s__law_alike) := ⟨rfl, rfl, rfl, by decide +kernel, rfl, by decide +kernel, by decide +kernel⟩
abbrev s__law_ring : Stmt := top 33
theorem sc__law_ring : FnScope ["_law_size", "_law_k"] ["_law_size"] (defScope s__law_ring) := ⟨rfl, rfl, rfl, by decide +kernel, rfl, by decide +kernel, by decide +kernel⟩
abbrev s__law_rings : Stmt := top 34
theorem sc__law_rings : FnScope ["_law_box_here", "_law_size", "_law_many", "_law_cut"] ["_law_box_here"] (defScope s__law_rings) := ⟨rfl, rfl, rfl, by decide +kernel, rfl, by decide +kernel, by decide +kernel⟩
abbrev s_law : Stmt := top 35
theorem sc_law : FnScope ["_law_script", "_law_box_here", "_law_n", "_law_m", "_law_other", "_law_turned_here", "_law_due"] ["_law_script"] (defScope s_law) := ⟨rfl, rfl, rfl, by decide +kernel, rfl, by decide +kernel, by decide +kernel⟩
/-- what the top has written -/
structure Tx (K : PySem.W.Frag) (mg : Str → Option Value) where
  a__law_box : Addr
  d__law_box : FuncData
  a__law_take : Addr
  d__law_take : FuncData
  a__law_pick : Addr
  d__law_pick : FuncData
  a__law_machine : Addr
  d__law_machine : FuncData
  a__law_twinned : Addr
  d__law_twinned : FuncData
  a_is_whole : Addr
  d_is_whole : FuncData
  a_is_within : Addr
  d_is_within : FuncData
  a_is_row : Addr
  d_is_row : FuncData
  a_is_machine : Addr
  d_is_machine : FuncData
  a_check_machine : Addr
  d_check_machine : FuncData
  a_check_machines : Addr
  d_check_machines : FuncData
  a_recoloured : Addr
  d_recoloured : FuncData
  a_alike : Addr
  d_alike : FuncData
  a__law_turned : Addr
  d__law_turned : FuncData
  a__law_row_holds : Addr
  d__law_row_holds : FuncData
  a__law_alike : Addr
  d__law_alike : FuncData
  a__law_ring : Addr
  d__law_ring : FuncData
  a__law_rings : Addr
  d__law_rings : FuncData
  a_law : Addr
  d_law : FuncData
  u_MOST_LETTERS : Value
  u_MOST_ROWS : Value
  u_MOST_EDGES : Value
  F__law_box : FunD K "_law_box" "_law_box" (defArgs s__law_box) (defBody s__law_box) (defScope s__law_box) [] [] a__law_box d__law_box
  g__law_box : mg "_law_box" = some (.ref a__law_box)
  b__law_box : Binds K d__law_box ["_law_script"] []
  F__law_take : FunD K "_law_take" "_law_take" (defArgs s__law_take) (defBody s__law_take) (defScope s__law_take) [] [] a__law_take d__law_take
  g__law_take : mg "_law_take" = some (.ref a__law_take)
  b__law_take : Binds K d__law_take ["_law_box_here", "_law_m"] []
  F__law_pick : FunD K "_law_pick" "_law_pick" (defArgs s__law_pick) (defBody s__law_pick) (defScope s__law_pick) [] [] a__law_pick d__law_pick
  g__law_pick : mg "_law_pick" = some (.ref a__law_pick)
  b__law_pick : Binds K d__law_pick ["_law_box_here", "_law_menu"] []
  F__law_machine : FunD K "_law_machine" "_law_machine" (defArgs s__law_machine) (defBody s__law_machine) (defScope s__law_machine) [] [] a__law_machine d__law_machine
  g__law_machine : mg "_law_machine" = some (.ref a__law_machine)
  b__law_machine : Binds K d__law_machine ["_law_box_here", "_law_n", "_law_most"] []
  F__law_twinned : FunD K "_law_twinned" "_law_twinned" (defArgs s__law_twinned) (defBody s__law_twinned) (defScope s__law_twinned) [] [] a__law_twinned d__law_twinned
  g__law_twinned : mg "_law_twinned" = some (.ref a__law_twinned)
  b__law_twinned : Binds K d__law_twinned ["_law_box_here", "_law_m"] []
  F_is_whole : FunD K "is_whole" "is_whole" (defArgs s_is_whole) (defBody s_is_whole) (defScope s_is_whole) [] [] a_is_whole d_is_whole
  g_is_whole : mg "is_whole" = some (.ref a_is_whole)
  b_is_whole : Binds K d_is_whole ["x"] []
  F_is_within : FunD K "is_within" "is_within" (defArgs s_is_within) (defBody s_is_within) (defScope s_is_within) [] [] a_is_within d_is_within
  g_is_within : mg "is_within" = some (.ref a_is_within)
  b_is_within : Binds K d_is_within ["x", "low", "high"] []
  F_is_row : FunD K "is_row" "is_row" (defArgs s_is_row) (defBody s_is_row) (defScope s_is_row) [] [] a_is_row d_is_row
  g_is_row : mg "is_row" = some (.ref a_is_row)
  b_is_row : Binds K d_is_row ["row", "n", "many"] []
  F_is_machine : FunD K "is_machine" "is_machine" (defArgs s_is_machine) (defBody s_is_machine) (defScope s_is_machine) [] [] a_is_machine d_is_machine
  g_is_machine : mg "is_machine" = some (.ref a_is_machine)
  b_is_machine : Binds K d_is_machine ["m"] []
  F_check_machine : FunD K "check_machine" "check_machine" (defArgs s_check_machine) (defBody s_check_machine) (defScope s_check_machine) [] [] a_check_machine d_check_machine
  g_check_machine : mg "check_machine" = some (.ref a_check_machine)
  b_check_machine : Binds K d_check_machine ["m"] []
  F_check_machines : FunD K "check_machines" "check_machines" (defArgs s_check_machines) (defBody s_check_machines) (defScope s_check_machines) [] [] a_check_machines d_check_machines
  g_check_machines : mg "check_machines" = some (.ref a_check_machines)
  b_check_machines : Binds K d_check_machines ["a", "b"] []
  F_recoloured : FunD K "recoloured" "recoloured" (defArgs s_recoloured) (defBody s_recoloured) (defScope s_recoloured) [] [] a_recoloured d_recoloured
  g_recoloured : mg "recoloured" = some (.ref a_recoloured)
  b_recoloured : Binds K d_recoloured ["rows", "colours"] []
  F_alike : FunD K "alike" "alike" (defArgs s_alike) (defBody s_alike) (defScope s_alike) [] [] a_alike d_alike
  g_alike : mg "alike" = some (.ref a_alike)
  b_alike : Binds K d_alike ["a", "b"] []
  F__law_turned : FunD K "_law_turned" "_law_turned" (defArgs s__law_turned) (defBody s__law_turned) (defScope s__law_turned) [] [] a__law_turned d__law_turned
  g__law_turned : mg "_law_turned" = some (.ref a__law_turned)
  b__law_turned : Binds K d__law_turned ["_law_box_here", "_law_m"] []
  F__law_row_holds : FunD K "_law_row_holds" "_law_row_holds" (defArgs s__law_row_holds) (defBody s__law_row_holds) (defScope s__law_row_holds) [] [] a__law_row_holds d__law_row_holds
  g__law_row_holds : mg "_law_row_holds" = some (.ref a__law_row_holds)
  b__law_row_holds : Binds K d__law_row_holds ["_law_one", "_law_p", "_law_two", "_law_q", "_law_left"] []
  F__law_alike : FunD K "_law_alike" "_law_alike" (defArgs s__law_alike) (defBody s__law_alike) (defScope s__law_alike) [] [] a__law_alike d__law_alike
  g__law_alike : mg "_law_alike" = some (.ref a__law_alike)
  b__law_alike : Binds K d__law_alike ["_law_one", "_law_two"] []
  F__law_ring : FunD K "_law_ring" "_law_ring" (defArgs s__law_ring) (defBody s__law_ring) (defScope s__law_ring) [] [] a__law_ring d__law_ring
  g__law_ring : mg "_law_ring" = some (.ref a__law_ring)
  b__law_ring : Binds K d__law_ring ["_law_size"] []
  F__law_rings : FunD K "_law_rings" "_law_rings" (defArgs s__law_rings) (defBody s__law_rings) (defScope s__law_rings) [] [] a__law_rings d__law_rings
  g__law_rings : mg "_law_rings" = some (.ref a__law_rings)
  b__law_rings : Binds K d__law_rings ["_law_box_here"] []
  F_law : FunD K "law" "law" (defArgs s_law) (defBody s_law) (defScope s_law) [] [] a_law d_law
  g_law : mg "law" = some (.ref a_law)
  b_law : Binds K d_law ["_law_script"] []
  g_MOST_LETTERS : mg "MOST_LETTERS" = some u_MOST_LETTERS
  v_MOST_LETTERS : ∃ v, RelV v u_MOST_LETTERS ∧ ∀ O H, Rep K O H (.int 5) v
  g_MOST_ROWS : mg "MOST_ROWS" = some u_MOST_ROWS
  v_MOST_ROWS : ∃ v, RelV v u_MOST_ROWS ∧ ∀ O H, Rep K O H (.int 400) v
  g_MOST_EDGES : mg "MOST_EDGES" = some u_MOST_EDGES
  v_MOST_EDGES : ∃ v, RelV v u_MOST_EDGES ∧ ∀ O H, Rep K O H (.int 6000) v
  n_int : mg "int" = none
  n_abs : mg "abs" = none
  n_len : mg "len" = none
  n_range : mg "range" = none
  n_sorted : mg "sorted" = none
  n_tuple : mg "tuple" = none
  n_list : mg "list" = none
  n_isinstance : mg "isinstance" = none
  n_bool : mg "bool" = none
  n_sum : mg "sum" = none
  n_max : mg "max" = none
  n_set : mg "set" = none
  n_repr : mg "repr" = none
  g_BadMachine : mg "BadMachine" = some (.ref (clA K 0))
  x_BadMachine : PySem.W.excIn K (clA K 0) He.veBase "ValueError.__new__" = true ∧ PySem.W.keepIn K (.ref (clA K 0)) = true ∧ PySem.W.subIn K (.ref (clA K 0)) (.type "BaseException") = some true ∧ PySem.W.typeIn K (.ref (clA K 0)) = some (.type "type")
  g_BadLetters : mg "BadLetters" = some (.ref (clA K 2))
  x_BadLetters : PySem.W.excIn K (clA K 2) He.veBase "ValueError.__new__" = true ∧ PySem.W.keepIn K (.ref (clA K 2)) = true ∧ PySem.W.subIn K (.ref (clA K 2)) (.type "BaseException") = some true ∧ PySem.W.typeIn K (.ref (clA K 2)) = some (.type "type")
  bA : ∀ (s : Shared) (us : List Value), us.length = (["_law_script"] : List Str).length → BindsTo s d_law ⟨us, []⟩ ((["_law_script"] : List Str).zip us)
section
variable {P : Program} {w : World} {K : PySem.W.Frag} {mg : Str → Option Value} {base : Heap}
noncomputable def V_MOST_LETTERS (T : Tx K mg) : V := T.v_MOST_LETTERS.choose
theorem RelV_MOST_LETTERS (T : Tx K mg) : RelV (V_MOST_LETTERS T) T.u_MOST_LETTERS := T.v_MOST_LETTERS.choose_spec.1
theorem rep_MOST_LETTERS (T : Tx K mg) : ∀ O H, Rep K O H (.int 5) (V_MOST_LETTERS T) := T.v_MOST_LETTERS.choose_spec.2
noncomputable def V_MOST_ROWS (T : Tx K mg) : V := T.v_MOST_ROWS.choose
theorem RelV_MOST_ROWS (T : Tx K mg) : RelV (V_MOST_ROWS T) T.u_MOST_ROWS := T.v_MOST_ROWS.choose_spec.1
theorem rep_MOST_ROWS (T : Tx K mg) : ∀ O H, Rep K O H (.int 400) (V_MOST_ROWS T) := T.v_MOST_ROWS.choose_spec.2
noncomputable def V_MOST_EDGES (T : Tx K mg) : V := T.v_MOST_EDGES.choose
theorem RelV_MOST_EDGES (T : Tx K mg) : RelV (V_MOST_EDGES T) T.u_MOST_EDGES := T.v_MOST_EDGES.choose_spec.1
theorem rep_MOST_EDGES (T : Tx K mg) : ∀ O H, Rep K O H (.int 6000) (V_MOST_EDGES T) := T.v_MOST_EDGES.choose_spec.2
theorem ok__law_box (T : Tx K mg) : FnG P w K mg base (CXA P w) 1 T.a__law_box T.d__law_box ["_law_script"] (spF K [.dat] .ol (clA K) f__law_box) := by
  refine ok_def (pm := [.dat]) (gs := [.dat, .dat]) (rm := .ol) (cl := clA K) T.F__law_box sc__law_box rfl (by decide) rfl (by decide) (fun cdv A outer s H E hr => ?_)
  have tk := tkA_of (X := cxOf (CXA P w) P w K mg base ["_law_script", "_law_x"] "_law_box" (defScope s__law_box) T.a__law_box cdv A outer s H E) (E := E) rfl rfl rfl rfl
  exact (rs_one (rs_retF (rf_lst (ms := [(cst (.int 0)), (cst (.int 0)), (cst (.int 0)), (lcE [1] (itE (rd 0)) (tgN 1) (pu true) (callB bAbs [(.d (callB bInt [(.d (rd 1))]))]))]) (ra_cons (o := .d _) re_int (ra_cons (o := .d _) re_int (ra_cons (o := .d _) re_int (ra_cons (o := .d _) (re_fe (rf_lc rfl sc__law_box.nd (ri_seq rfl (re_var rfl (pv 0))) (blkOk_by (own := [("_law_x", 1)]) rfl) rfl (all_dat rfl) (fun _ _ _ _ _ => (rg_name rfl rfl (pg_name (i := 1) sc__law_box.nd rfl (by first | exact Or.inl rfl | exact Or.inr rfl)))) (fun _ _ _ _ _ => rts_nil) (fun _ _ _ _ _ => (re_callB (call_abs) cs_abs (by rfl) T.n_abs (by decide +kernel) (ra_cons (re_callTy call_int1 cs_int (by rfl) T.n_int (by decide +kernel) (ra_cons (re_var rfl (pv 1)) ra_nil)) ra_nil))))) ra_nil)))))))
theorem ok__law_take (T : Tx K mg) : FnG P w K mg base (CXA P w) 1 T.a__law_take T.d__law_take ["_law_box_here", "_law_m"] (spF K [.ol, .dat] .dat (clA K) f__law_take) := by
  refine ok_def (pm := [.ol, .dat]) (gs := [.ol, .dat, .dat, .dat, .dat]) (rm := .dat) (cl := clA K) T.F__law_take sc__law_take rfl (by decide) rfl (by decide) (fun cdv A outer s H E hr => ?_)
  have tk := tkA_of (X := cxOf (CXA P w) P w K mg base ["_law_box_here", "_law_m", "_law_at", "_law_cell", "_law_told"] "_law_take" (defScope s__law_take) T.a__law_take cdv A outer s H E) (E := E) rfl rfl rfl rfl
  exact (rs_cons (rs_if (rt_cmp (op_eqD hr.units) os_eq (re_ix ix_seq os_ix (pv 0) re_int (fun _ _ => rfl)) re_int (nomark _))
  (rs_cons (rs_asg rfl rfl (ps_set (i := 2) sc__law_take.nd rfl (Or.inl rfl) (re_ix ix_seq os_ix (pv 0) re_int (fun _ _ => rfl))))
  (rs_cons (rs_asg rfl rfl (ps_set (i := 3) sc__law_take.nd rfl (Or.inl rfl) re_int))
  (rs_cons (rs_if (rt_cmp (op_lt) os_lt (re_var rfl (pv 2)) (re_callB (call_len) cs_len (by rfl) T.n_len (by decide +kernel) (ra_cons (re_ix ix_seq os_ix (pv 0) re_int (fun _ _ => rfl)) ra_nil)) (nomark _))
  (rs_cons (rs_asg rfl rfl (ps_set (i := 3) sc__law_take.nd rfl (Or.inl rfl) (re_ix ix_seq os_ix (re_ix ix_seq os_ix (pv 0) re_int (fun _ _ => rfl)) (re_var rfl (pv 2)) (fun _ _ => rfl))))
  (rs_one (rs_setI rfl (ps_asg (re_if (rt_cmp (op_ge) os_ge (re_var rfl (pv 3)) (re_bin op_pow os_pow re_int re_int) (nomark _)) re_int (re_un un_neg us_neg re_int)) (pg_sub (pv 0) re_int set_list)))))
  rs_nil)
  (rs_cons (rs_setI rfl (ps_asg (re_bin op_addA os_add (re_var rfl (pv 2)) re_int) (pg_sub (pv 0) re_int set_list)))
  (rs_cons (rs_setI rfl (ps_asg (re_var rfl (pv 3)) (pg_sub (pv 0) re_int set_list)))
  (rs_one (rs_if (rt_cmp (op_eqD hr.units) os_eq (re_ix ix_seq os_ix (pv 0) re_int (fun _ _ => rfl)) re_int (nomark _))
  (rs_one (rs_ret rfl re_int))
  rs_nil)))))))
  rs_nil)
  (rs_cons (rs_if (rt_cmp (op_gt) os_gt (re_ix ix_seq os_ix (pv 0) re_int (fun _ _ => rfl)) re_int (nomark _))
  (rs_cons (rs_asg rfl rfl (ps_set (i := 4) sc__law_take.nd rfl (Or.inl rfl) (re_bin op_mod os_mod (re_callTy call_int1 cs_int (by rfl) T.n_int (by decide +kernel) (ra_cons (re_ix ix_seq os_ix (pv 0) re_int (fun _ _ => rfl)) ra_nil)) (re_var rfl (pv 1)))))
  (rs_cons (rs_setI rfl (ps_asg (re_bin op_fdiv os_fdv (re_ix ix_seq os_ix (pv 0) re_int (fun _ _ => rfl)) (re_var rfl (pv 1))) (pg_sub (pv 0) re_int set_list)))
  (rs_cons (rs_setI rfl (ps_asg (re_if (rt_cmp (op_gt) os_gt (re_ix ix_seq os_ix (pv 0) re_int (fun _ _ => rfl)) re_int (nomark _)) (re_bin op_sub os_sub (re_ix ix_seq os_ix (pv 0) re_int (fun _ _ => rfl)) re_int) re_int) (pg_sub (pv 0) re_int set_list)))
  (rs_one (rs_ret rfl (re_var rfl (pv 4)))))))
  rs_nil)
  (rs_cons (rs_setI rfl (ps_asg (re_bin op_addA os_add (re_ix ix_seq os_ix (pv 0) re_int (fun _ _ => rfl)) re_int) (pg_sub (pv 0) re_int set_list)))
  (rs_cons (rs_setI rfl (ps_asg (re_bin op_mod os_mod (re_callTy call_int1 cs_int (by rfl) T.n_int (by decide +kernel) (ra_cons (re_bin op_addA os_add (re_bin op_mul os_mul (re_ix ix_seq os_ix (pv 0) re_int (fun _ _ => rfl)) re_int) (re_bin op_mul os_mul re_int (re_bin op_addA os_add (re_ix ix_seq os_ix (pv 0) re_int (fun _ _ => rfl)) re_int))) ra_nil)) re_int) (pg_sub (pv 0) re_int set_list)))
  (rs_one (rs_ret rfl (re_bin op_mod os_mod (re_bin op_mod os_mod (re_callTy call_int1 cs_int (by rfl) T.n_int (by decide +kernel) (ra_cons (re_bin op_addA os_add (re_bin op_fdiv os_fdv (re_ix ix_seq os_ix (pv 0) re_int (fun _ _ => rfl)) re_int) (re_ix ix_seq os_ix (pv 0) re_int (fun _ _ => rfl))) ra_nil)) re_int) (re_var rfl (pv 1)))))))))
theorem ok__law_pick (T : Tx K mg) : FnG P w K mg base (CXA P w) 2 T.a__law_pick T.d__law_pick ["_law_box_here", "_law_menu"] (spF K [.ol, .dat] .dat (clA K) f__law_pick) := by
  refine ok_def (pm := [.ol, .dat]) (gs := [.ol, .dat]) (rm := .dat) (cl := clA K) T.F__law_pick sc__law_pick rfl (by decide) rfl (by decide) (fun cdv A outer s H E hr => ?_)
  have tk := tkA_of (X := cxOf (CXA P w) P w K mg base ["_law_box_here", "_law_menu"] "_law_pick" (defScope s__law_pick) T.a__law_pick cdv A outer s H E) (E := E) rfl rfl rfl rfl
  exact (rs_one (rs_ret rfl (re_ix ix_seq os_ix (re_var rfl (pv 1)) (re_call (E := E) (ok__law_take T) (hr.mono (by decide)) (by rfl) T.g__law_take T.F__law_take.kp T.b__law_take (passA tk fun _ _ _ h => h) (fun _ _ _ h => h) (ra_cons (pv 0) (ra_cons (re_callB (call_len) cs_len (by rfl) T.n_len (by decide +kernel) (ra_cons (re_var rfl (pv 1)) ra_nil)) ra_nil)) (by rfl) (by decide)) (fun _ _ => rfl))))
theorem ok__law_machine (T : Tx K mg) : FnG P w K mg base (CXA P w) 3 T.a__law_machine T.d__law_machine ["_law_box_here", "_law_n", "_law_most"] (spF K [.ol, .dat, .dat] .dat (clA K) f__law_machine) := by
  refine ok_def (pm := [.ol, .dat, .dat]) (gs := [.ol, .dat, .dat, .dat, .ol, .dat, .ol, .dat, .dat, .dat]) (rm := .dat) (cl := clA K) T.F__law_machine sc__law_machine rfl (by decide) rfl (by decide) (fun cdv A outer s H E hr => ?_)
  have tk := tkA_of (X := cxOf (CXA P w) P w K mg base ["_law_box_here", "_law_n", "_law_most", "_law_size", "_law_rows", "_law_p", "_law_edges", "_law_a", "_law_k", "_law_to"] "_law_machine" (defScope s__law_machine) T.a__law_machine cdv A outer s H E) (E := E) rfl rfl rfl rfl
  exact (rs_cons (rs_asg rfl rfl (ps_set (i := 3) sc__law_machine.nd rfl (Or.inl rfl) (re_bin op_addA os_add re_int (re_call (E := E) (ok__law_take T) (hr.mono (by decide)) (by rfl) T.g__law_take T.F__law_take.kp T.b__law_take (passA tk fun _ _ _ h => h) (fun _ _ _ h => h) (ra_cons (pv 0) (ra_cons (re_var rfl (pv 2)) ra_nil)) (by rfl) (by decide)))))
  (rs_cons (rs_asgF (md := .ol) rfl rfl (ps_set (i := 4) sc__law_machine.nd rfl (Or.inl rfl) (rf_lst (ms := []) ra_nil)))
  (rs_cons (rs_for (passes_of rfl) rfl (ri_rng1 (by rfl) T.n_range (ra_cons (re_var rfl (pv 3)) ra_nil)) (rg_name rfl rfl (pg_name (i := 5) sc__law_machine.nd rfl (by first | exact Or.inl rfl | exact Or.inr rfl)))
  (rs_cons (rs_asgF (md := .ol) rfl rfl (ps_set (i := 6) sc__law_machine.nd rfl (Or.inl rfl) (rf_lst (ms := []) ra_nil)))
  (rs_cons (rs_for (passes_of rfl) rfl (ri_rng1 (by rfl) T.n_range (ra_cons (re_var rfl (pv 1)) ra_nil)) (rg_name rfl rfl (pg_name (i := 7) sc__law_machine.nd rfl (by first | exact Or.inl rfl | exact Or.inr rfl)))
  (rs_one (rs_for (passes_of rfl) rfl (ri_rng1 (by rfl) T.n_range (ra_cons (re_call (E := E) (ok__law_pick T) (hr.mono (by decide)) (by rfl) T.g__law_pick T.F__law_pick.kp T.b__law_pick (passA tk fun _ _ _ h => h) (fun _ _ _ h => h) (ra_cons (pv 0) (ra_cons (re_fe (rf_lst (ms := [(cst (.int 0)), (cst (.int 1)), (cst (.int 1)), (cst (.int 1)), (cst (.int 2))]) (ra_cons (o := .d _) re_int (ra_cons (o := .d _) re_int (ra_cons (o := .d _) re_int (ra_cons (o := .d _) re_int (ra_cons (o := .d _) re_int ra_nil))))))) ra_nil)) (by rfl) (by decide)) ra_nil)) (rg_name rfl rfl (pg_name (i := 8) sc__law_machine.nd rfl (by first | exact Or.inl rfl | exact Or.inr rfl)))
  (rs_cons (rs_asg rfl rfl (ps_set (i := 9) sc__law_machine.nd rfl (Or.inl rfl) (re_call (E := E) (ok__law_take T) (hr.mono (by decide)) (by rfl) T.g__law_take T.F__law_take.kp T.b__law_take (passA tk fun _ _ _ h => h) (fun _ _ _ h => h) (ra_cons (pv 0) (ra_cons (re_var rfl (pv 3)) ra_nil)) (by rfl) (by decide))))
  (rs_one (rs_if (rt_cmp (op_niA (hu65 hr)) os_ni (re_tup (ms := [(rd 7), (rd 9)]) (ra_cons (o := .d _) (re_var rfl (pv 7)) (ra_cons (o := .d _) (re_var rfl (pv 9)) ra_nil))) (pv 6) (by rfl))
  (rs_one (rs_app (m := (tupE [(rd 7), (rd 9)])) rfl (ps_expr (pe_bm PySem.F.plainAttrs_list PySem.F.slot_list_append PySem.F.type_list_append mt_append (pv 6) (pa_cons (re_tup (ms := [(rd 7), (rd 9)]) (ra_cons (o := .d _) (re_var rfl (pv 7)) (ra_cons (o := .d _) (re_var rfl (pv 9)) ra_nil))) pa_nil)))))
  rs_nil))))))
  (rs_one (rs_app (m := (callB bTuple [(.d (callB bSortP [(.o 6)]))])) rfl (ps_expr (pe_bm PySem.F.plainAttrs_list PySem.F.slot_list_append PySem.F.type_list_append mt_append (pv 4) (pa_cons (re_callTy call_tuple_of cs_tuple (by rfl) T.n_tuple (by decide +kernel) (ra_cons (re_fe (rf_callB cr_sortPS cn_sortP (by rfl) T.n_sorted (by decide +kernel) (ra_cons (pv 6) ra_nil))) ra_nil)) pa_nil))))))))
  (rs_one (rs_ret rfl (re_tup (ms := [(rd 1), (callB bTuple [(.o 4)])]) (ra_cons (o := .d _) (re_var rfl (pv 1)) (ra_cons (o := .d _) (re_callTy call_tuple_of cs_tuple (by rfl) T.n_tuple (by decide +kernel) (ra_cons (pv 4) ra_nil)) ra_nil))))))))
theorem ok__law_twinned (T : Tx K mg) : FnG P w K mg base (CXA P w) 3 T.a__law_twinned T.d__law_twinned ["_law_box_here", "_law_m"] (spF K [.ol, .dat] .dat (clA K) f__law_twinned) := by
  refine ok_def (pm := [.ol, .dat]) (gs := [.ol, .dat, .dat, .ol, .dat, .ol, .ol, .dat, .dat, .dat, .dat, .dat, .dat]) (rm := .dat) (cl := clA K) T.F__law_twinned sc__law_twinned rfl (by decide) rfl (by decide) (fun cdv A outer s H E hr => ?_)
  have tk := tkA_of (X := cxOf (CXA P w) P w K mg base ["_law_box_here", "_law_m", "_law_size", "_law_home", "_law_k", "_law_places", "_law_rows", "_law_edges", "_law_a", "_law_to", "_law_spots", "_law_j", "_law_spot"] "_law_twinned" (defScope s__law_twinned) T.a__law_twinned cdv A outer s H E) (E := E) rfl rfl rfl rfl
  exact (rs_cons (rs_asg rfl rfl (ps_set (i := 2) sc__law_twinned.nd rfl (Or.inl rfl) (re_callB (call_len) cs_len (by rfl) T.n_len (by decide +kernel) (ra_cons (re_ix ix_seq os_ix (re_var rfl (pv 1)) re_int (fun _ _ => rfl)) ra_nil))))
  (rs_cons (rs_asgF (md := .ol) rfl rfl (ps_set (i := 3) sc__law_twinned.nd rfl (Or.inr rfl) (rf_listR1 rfl (by rfl) T.n_list (by rfl) T.n_range (re_var rfl (pv 2)))))
  (rs_cons (rs_for (passes_of rfl) rfl (ri_rng1 (by rfl) T.n_range (ra_cons (re_call (E := E) (ok__law_take T) (hr.mono (by decide)) (by rfl) T.g__law_take T.F__law_take.kp T.b__law_take (passA tk fun _ _ _ h => h) (fun _ _ _ h => h) (ra_cons (pv 0) (ra_cons re_int ra_nil)) (by rfl) (by decide)) ra_nil)) (rg_name rfl rfl (pg_name (i := 4) sc__law_twinned.nd rfl (by first | exact Or.inl rfl | exact Or.inr rfl)))
  (rs_one (rs_app (m := (callF f__law_take [(.o 0), (.d (rd 2))])) rfl (ps_expr (pe_bm PySem.F.plainAttrs_list PySem.F.slot_list_append PySem.F.type_list_append mt_append (pv 3) (pa_cons (re_call (E := E) (ok__law_take T) (hr.mono (by decide)) (by rfl) T.g__law_take T.F__law_take.kp T.b__law_take (passA tk fun _ _ _ h => h) (fun _ _ _ h => h) (ra_cons (pv 0) (ra_cons (re_var rfl (pv 2)) ra_nil)) (by rfl) (by decide)) pa_nil))))))
  (rs_cons (rs_asgF (md := .ol) rfl rfl (ps_set (i := 5) sc__law_twinned.nd rfl (Or.inr rfl) (rf_lst (ms := [(cst (.int 0))]) (ra_cons (o := .d _) re_int ra_nil))))
  (rs_cons (rs_for (passes_of rfl) rfl (ri_rng2 (by rfl) T.n_range (ra_cons re_int (ra_cons (re_callB (call_len) cs_len (by rfl) T.n_len (by decide +kernel) (ra_cons (pv 3) ra_nil)) ra_nil))) (rg_name rfl rfl (pg_name (i := 4) sc__law_twinned.nd rfl (by first | exact Or.inl rfl | exact Or.inr rfl)))
  (rs_one (rs_ins rfl (ps_expr (pe_bm PySem.F.plainAttrs_list PySem.F.slot_list_insert PySem.F.type_list_insert mt_ins (pv 5) (pa_cons (re_bin op_addA os_add re_int (re_call (E := E) (ok__law_take T) (hr.mono (by decide)) (by rfl) T.g__law_take T.F__law_take.kp T.b__law_take (passA tk fun _ _ _ h => h) (fun _ _ _ h => h) (ra_cons (pv 0) (ra_cons (re_callB (call_len) cs_len (by rfl) T.n_len (by decide +kernel) (ra_cons (pv 5) ra_nil)) ra_nil)) (by rfl) (by decide))) (pa_cons (re_var rfl (pv 4)) pa_nil)))))))
  (rs_cons (rs_asgF (md := .ol) rfl rfl (ps_set (i := 6) sc__law_twinned.nd rfl (Or.inl rfl) (rf_lst (ms := []) ra_nil)))
  (rs_cons (rs_forO rfl rfl (passes_of rfl) rfl (pv 5) (rg_name rfl rfl (pg_name (i := 4) sc__law_twinned.nd rfl (by first | exact Or.inl rfl | exact Or.inr rfl)))
  (rs_cons (rs_asg rfl rfl (ps_set (i := 7) sc__law_twinned.nd rfl (Or.inr rfl) (re_fe (rf_lst (ms := []) ra_nil))))
  (rs_cons (rs_for (passes_of rfl) rfl (ri_seq rfl (re_ix ix_seq os_ix (re_ix ix_seq os_ix (re_var rfl (pv 1)) re_int (fun _ _ => rfl)) (re_ix ix_seq os_ix (pv 3) (re_var rfl (pv 4)) (fun _ _ => rfl)) (fun _ _ => rfl))) (rg_tup rfl (rgs_cons (rg_name rfl rfl (pg_name (i := 8) sc__law_twinned.nd rfl (by first | exact Or.inl rfl | exact Or.inr rfl))) (rgs_cons (rg_name rfl rfl (pg_name (i := 9) sc__law_twinned.nd rfl (by first | exact Or.inl rfl | exact Or.inr rfl))) rgs_nil)) rfl)
  (rs_cons (rs_asg rfl rfl (asg_fe (rs_setLc (i := 10) rfl sc__law_twinned.nd rfl rfl (sw_true rfl rfl rfl (by decide +kernel)) (ri_rng1 (by rfl) T.n_range (ra_cons (re_callB (call_len) cs_len (by rfl) T.n_len (by decide +kernel) (ra_cons (pv 5) ra_nil)) ra_nil)) (blkOk_by (own := [("_law_j", 11)]) rfl) rfl (all_dat rfl) (fun _ _ _ _ _ => (rg_name rfl rfl (pg_name (i := 11) sc__law_twinned.nd rfl (by first | exact Or.inl rfl | exact Or.inr rfl)))) (fun _ _ _ _ _ => (rts_one (rt_cmp (op_eqD hr.units) os_eq (re_ix ix_seq os_ix (pv 3) (re_ix ix_seq os_ix (pv 5) (re_var rfl (pv 11)) (fun _ _ => rfl)) (fun _ _ => rfl)) (re_var rfl (pv 9)) (nomark _)))) (fun _ _ _ _ _ => (re_var rfl (pv 11))))))
  (rs_cons (rs_if (rt_cmp (op_eqD hr.units) os_eq (re_call (E := E) (ok__law_take T) (hr.mono (by decide)) (by rfl) T.g__law_take T.F__law_take.kp T.b__law_take (passA tk fun _ _ _ h => h) (fun _ _ _ h => h) (ra_cons (pv 0) (ra_cons re_int ra_nil)) (by rfl) (by decide)) re_int (nomark _))
  (rs_one (rs_asg rfl rfl (ps_set (i := 10) sc__law_twinned.nd rfl (Or.inl rfl) (re_fe (rf_lst (ms := [(callF f__law_pick [(.o 0), (.d (rd 10))])]) (ra_cons (o := .d _) (re_call (E := E) (ok__law_pick T) (hr.mono (by decide)) (by rfl) T.g__law_pick T.F__law_pick.kp T.b__law_pick (passA tk fun _ _ _ h => h) (fun _ _ _ h => h) (ra_cons (pv 0) (ra_cons (re_var rfl (pv 10)) ra_nil)) (by rfl) (by decide)) ra_nil))))))
  rs_nil)
  (rs_one (rs_asg rfl rfl (ps_set (i := 7) sc__law_twinned.nd rfl (Or.inr rfl) (re_bin op_catS os_catL (re_var rfl (pv 7)) (re_fe (rf_lc rfl sc__law_twinned.nd (ri_seq rfl (re_var rfl (pv 10))) (blkOk_by (own := [("_law_spot", 12)]) rfl) rfl (all_dat rfl) (fun _ _ _ _ _ => (rg_name rfl rfl (pg_name (i := 12) sc__law_twinned.nd rfl (by first | exact Or.inl rfl | exact Or.inr rfl)))) (fun _ _ _ _ _ => (rts_one (rt_cmp (op_niA (hu65 hr)) os_ni (re_tup (ms := [(rd 8), (rd 12)]) (ra_cons (o := .d _) (re_var rfl (pv 8)) (ra_cons (o := .d _) (re_var rfl (pv 12)) ra_nil))) (re_var rfl (pv 7)) (by rfl)))) (fun _ _ _ _ _ => (re_tup (ms := [(rd 8), (rd 12)]) (ra_cons (o := .d _) (re_var rfl (pv 8)) (ra_cons (o := .d _) (re_var rfl (pv 12)) ra_nil)))))))))))))
  (rs_one (rs_app (m := (callB bTuple [(.d (callB bSortP [(.d (rd 7))]))])) rfl (ps_expr (pe_bm PySem.F.plainAttrs_list PySem.F.slot_list_append PySem.F.type_list_append mt_append (pv 6) (pa_cons (re_callTy call_tuple_of cs_tuple (by rfl) T.n_tuple (by decide +kernel) (ra_cons (re_fe (rf_callB cr_sortPS cn_sortP (by rfl) T.n_sorted (by decide +kernel) (ra_cons (re_var rfl (pv 7)) ra_nil))) ra_nil)) pa_nil))))))))
  (rs_one (rs_ret rfl (re_tup (ms := [(bin gIx (.d (rd 1)) (.d (cst (.int 0)))), (callB bTuple [(.o 6)])]) (ra_cons (o := .d _) (re_ix ix_seq os_ix (re_var rfl (pv 1)) re_int (fun _ _ => rfl)) (ra_cons (o := .d _) (re_callTy call_tuple_of cs_tuple (by rfl) T.n_tuple (by decide +kernel) (ra_cons (pv 6) ra_nil)) ra_nil))))))))))))
theorem ok_is_whole (T : Tx K mg) : FnG P w K mg base (CXA P w) 1 T.a_is_whole T.d_is_whole ["x"] (spF K [.dat] .dat (clA K) f_is_whole) := by
  refine ok_def (pm := [.dat]) (gs := [.dat]) (rm := .dat) (cl := clA K) T.F_is_whole sc_is_whole rfl (by decide) rfl (by decide) (fun cdv A outer s H E hr => ?_)
  have tk := tkA_of (X := cxOf (CXA P w) P w K mg base ["x"] "is_whole" (defScope s_is_whole) T.a_is_whole cdv A outer s H E) (E := E) rfl rfl rfl rfl
  exact (rs_one (rs_ret rfl (re_and (re_isi (T := .int) (by rfl) T.n_isinstance (re_var rfl (pv 0)) (pe_bltn (by rfl) T.n_int (by decide +kernel) rfl) rfl) (pe_one (re_not (re_isi (T := .bool) (by rfl) T.n_isinstance (re_var rfl (pv 0)) (pe_bltn (by rfl) T.n_bool (by decide +kernel) rfl) rfl))))))
theorem ok_is_within (T : Tx K mg) : FnG P w K mg base (CXA P w) 2 T.a_is_within T.d_is_within ["x", "low", "high"] (spF K [.dat, .dat, .dat] .dat (clA K) f_is_within) := by
  refine ok_def (pm := [.dat, .dat, .dat]) (gs := [.dat, .dat, .dat]) (rm := .dat) (cl := clA K) T.F_is_within sc_is_within rfl (by decide) rfl (by decide) (fun cdv A outer s H E hr => ?_)
  have tk := tkA_of (X := cxOf (CXA P w) P w K mg base ["x", "low", "high"] "is_within" (defScope s_is_within) T.a_is_within cdv A outer s H E) (E := E) rfl rfl rfl rfl
  exact (rs_one (rs_ret rfl (re_and (re_call (E := E) (ok_is_whole T) (hr.mono (by decide)) (by rfl) T.g_is_whole T.F_is_whole.kp T.b_is_whole (passA tk fun _ _ _ h => h) (fun _ _ _ h => h) (ra_cons (re_var rfl (pv 0)) ra_nil) (by rfl) (by decide)) (pe_one (re_chain (op_le) os_le (op_le) os_le (re_var rfl (pv 1)) (re_var rfl (pv 0)) (re_var rfl (pv 2)))))))
theorem ok_is_row (T : Tx K mg) : FnG P w K mg base (CXA P w) 3 T.a_is_row T.d_is_row ["row", "n", "many"] (spF K [.dat, .dat, .dat] .dat (clA K) f_is_row) := by
  refine ok_def (pm := [.dat, .dat, .dat]) (gs := [.dat, .dat, .dat, .dat, .dat]) (rm := .dat) (cl := clA K) T.F_is_row sc_is_row rfl (by decide) rfl (by decide) (fun cdv A outer s H E hr => ?_)
  have tk := tkA_of (X := cxOf (CXA P w) P w K mg base ["row", "n", "many", "before", "edge"] "is_row" (defScope s_is_row) T.a_is_row cdv A outer s H E) (E := E) rfl rfl rfl rfl
  exact (rs_cons (rs_if (rt_not (rt_val (re_isi (T := .tuple) (by rfl) T.n_isinstance (re_var rfl (pv 0)) (pe_bltn (by rfl) T.n_tuple (by decide +kernel) rfl) rfl)))
  (rs_one (rs_ret rfl re_bl))
  rs_nil)
  (rs_cons (rs_asg rfl rfl (ps_set (i := 3) sc_is_row.nd rfl (Or.inl rfl) (re_tup (ms := [(un gNeg (.d (cst (.int 1)))), (un gNeg (.d (cst (.int 1))))]) (ra_cons (o := .d _) (re_un un_neg us_neg re_int) (ra_cons (o := .d _) (re_un un_neg us_neg re_int) ra_nil)))))
  (rs_cons (rs_for (passes_of rfl) rfl (ri_seq rfl (re_var rfl (pv 0))) (rg_name rfl rfl (pg_name (i := 4) sc_is_row.nd rfl (by first | exact Or.inl rfl | exact Or.inr rfl)))
  (rs_cons (rs_if (rw_or (rt_not (rt_val (re_isi (T := .tuple) (by rfl) T.n_isinstance (re_var rfl (pv 4)) (pe_bltn (by rfl) T.n_tuple (by decide +kernel) rfl) rfl))) (rw_or1 (rt_cmp (op_neD hr.units) os_ne (re_callB (call_len) cs_len (by rfl) T.n_len (by decide +kernel) (ra_cons (re_var rfl (pv 4)) ra_nil)) re_int (nomark _)))).pt
  (rs_one (rs_ret rfl re_bl))
  rs_nil)
  (rs_cons (rs_if (rw_or (rt_not (rt_val (re_call (E := E) (ok_is_within T) (hr.mono (by decide)) (by rfl) T.g_is_within T.F_is_within.kp T.b_is_within (passA tk fun _ _ _ h => h) (fun _ _ _ h => h) (ra_cons (re_ix ix_seq os_ix (re_var rfl (pv 4)) re_int (fun _ _ => rfl)) (ra_cons re_int (ra_cons (re_bin op_sub os_sub (re_var rfl (pv 1)) re_int) ra_nil))) (by rfl) (by decide)))) (rw_or1 (rt_not (rt_val (re_call (E := E) (ok_is_within T) (hr.mono (by decide)) (by rfl) T.g_is_within T.F_is_within.kp T.b_is_within (passA tk fun _ _ _ h => h) (fun _ _ _ h => h) (ra_cons (re_ix ix_seq os_ix (re_var rfl (pv 4)) re_int (fun _ _ => rfl)) (ra_cons re_int (ra_cons (re_bin op_sub os_sub (re_var rfl (pv 2)) re_int) ra_nil))) (by rfl) (by decide)))))).pt
  (rs_one (rs_ret rfl re_bl))
  rs_nil)
  (rs_cons (rs_if (rt_cmp (op_leT hr.units0) os_leT (re_var rfl (pv 4)) (re_var rfl (pv 3)) (nomark _))
  (rs_one (rs_ret rfl re_bl))
  rs_nil)
  (rs_one (rs_asg rfl rfl (ps_set (i := 3) sc_is_row.nd rfl (Or.inl rfl) (re_var rfl (pv 4)))))))))
  (rs_one (rs_ret rfl re_bl)))))
theorem ok_is_machine (T : Tx K mg) : FnG P w K mg base (CXA P w) 4 T.a_is_machine T.d_is_machine ["m"] (spF K [.dat] .dat (clA K) f_is_machine) := by
  refine ok_def (pm := [.dat]) (gs := [.dat, .dat, .dat]) (rm := .dat) (cl := clA K) T.F_is_machine sc_is_machine rfl (by decide) rfl (by decide) (fun cdv A outer s H E hr => ?_)
  have tk := tkA_of (X := cxOf (CXA P w) P w K mg base ["m", "rows", "row"] "is_machine" (defScope s_is_machine) T.a_is_machine cdv A outer s H E) (E := E) rfl rfl rfl rfl
  exact (rs_cons (rs_if (rw_or (rt_not (rt_val (re_isi (T := .tuple) (by rfl) T.n_isinstance (re_var rfl (pv 0)) (pe_bltn (by rfl) T.n_tuple (by decide +kernel) rfl) rfl))) (rw_or (rt_cmp (op_neD hr.units) os_ne (re_callB (call_len) cs_len (by rfl) T.n_len (by decide +kernel) (ra_cons (re_var rfl (pv 0)) ra_nil)) re_int (nomark _)) (rw_or1 (rt_not (rt_val (re_call (E := E) (ok_is_within T) (hr.mono (by decide)) (by rfl) T.g_is_within T.F_is_within.kp T.b_is_within (passA tk fun _ _ _ h => h) (fun _ _ _ h => h) (ra_cons (re_ix ix_seq os_ix (re_var rfl (pv 0)) re_int (fun _ _ => rfl)) (ra_cons re_int (ra_cons (re_cst (pe_glob (by rfl) T.g_MOST_LETTERS (RelV_MOST_LETTERS T)) (rep_MOST_LETTERS T)) ra_nil))) (by rfl) (by decide))))))).pt
  (rs_one (rs_ret rfl re_bl))
  rs_nil)
  (rs_cons (rs_asg rfl rfl (ps_set (i := 1) sc_is_machine.nd rfl (Or.inl rfl) (re_ix ix_seq os_ix (re_var rfl (pv 0)) re_int (fun _ _ => rfl))))
  (rs_cons (rs_if (rw_or (rt_not (rt_val (re_isi (T := .tuple) (by rfl) T.n_isinstance (re_var rfl (pv 1)) (pe_bltn (by rfl) T.n_tuple (by decide +kernel) rfl) rfl))) (rw_or1 (rt_not (rt_chain (op_le) os_le (op_le) os_le re_int (re_callB (call_len) cs_len (by rfl) T.n_len (by decide +kernel) (ra_cons (re_var rfl (pv 1)) ra_nil)) (re_cst (pe_glob (by rfl) T.g_MOST_ROWS (RelV_MOST_ROWS T)) (rep_MOST_ROWS T)))))).pt
  (rs_one (rs_ret rfl re_bl))
  rs_nil)
  (rs_cons (rs_for (passes_of rfl) rfl (ri_seq rfl (re_var rfl (pv 1))) (rg_name rfl rfl (pg_name (i := 2) sc_is_machine.nd rfl (by first | exact Or.inl rfl | exact Or.inr rfl)))
  (rs_one (rs_if (rt_not (rt_val (re_call (E := E) (ok_is_row T) (hr.mono (by decide)) (by rfl) T.g_is_row T.F_is_row.kp T.b_is_row (passA tk fun _ _ _ h => h) (fun _ _ _ h => h) (ra_cons (re_var rfl (pv 2)) (ra_cons (re_ix ix_seq os_ix (re_var rfl (pv 0)) re_int (fun _ _ => rfl)) (ra_cons (re_callB (call_len) cs_len (by rfl) T.n_len (by decide +kernel) (ra_cons (re_var rfl (pv 1)) ra_nil)) ra_nil))) (by rfl) (by decide))))
  (rs_one (rs_ret rfl re_bl))
  rs_nil)))
  (rs_one (rs_ret rfl (re_cmp (op_le) os_le (re_callB (cr_sum rfl) cs_sum (by rfl) T.n_sum (by decide +kernel) (ra_cons (re_fe (rf_lc rfl sc_is_machine.nd (ri_seq rfl (re_var rfl (pv 1))) (blkOk_by (own := [("row", 2)]) rfl) rfl (all_dat rfl) (fun _ _ _ _ _ => (rg_name rfl rfl (pg_name (i := 2) sc_is_machine.nd rfl (by first | exact Or.inl rfl | exact Or.inr rfl)))) (fun _ _ _ _ _ => rts_nil) (fun _ _ _ _ _ => (re_callB (call_len) cs_len (by rfl) T.n_len (by decide +kernel) (ra_cons (re_var rfl (pv 2)) ra_nil))))) ra_nil)) (re_cst (pe_glob (by rfl) T.g_MOST_EDGES (RelV_MOST_EDGES T)) (rep_MOST_EDGES T)) (nomark _))))))))
theorem ok_check_machine (T : Tx K mg) : FnG P w K mg base (CXA P w) 5 T.a_check_machine T.d_check_machine ["m"] (spF K [.dat] .dat (clA K) f_check_machine) := by
  refine ok_def (pm := [.dat]) (gs := [.dat]) (rm := .dat) (cl := clA K) T.F_check_machine sc_check_machine rfl (by decide) rfl (by decide) (fun cdv A outer s H E hr => ?_)
  have tk := tkA_of (X := cxOf (CXA P w) P w K mg base ["m"] "check_machine" (defScope s_check_machine) T.a_check_machine cdv A outer s H E) (E := E) rfl rfl rfl rfl
  exact (rs_one (rs_if (rt_not (rt_val (re_call (E := E) (ok_is_machine T) (hr.mono (by decide)) (by rfl) T.g_is_machine T.F_is_machine.kp T.b_is_machine (passA tk fun _ _ _ h => h) (fun _ _ _ h => h) (ra_cons (re_var rfl (pv 0)) ra_nil) (by rfl) (by decide))))
  (rs_one (rs_raise (cl := clA K) (c := 0) rfl rfl tk (fun _ _ _ h => h) T.g_BadMachine T.x_BadMachine (by rfl)))
  rs_nil))
theorem ok_check_machines (T : Tx K mg) : FnG P w K mg base (CXA P w) 6 T.a_check_machines T.d_check_machines ["a", "b"] (spF K [.dat, .dat] .dat (clA K) f_check_machines) := by
  refine ok_def (pm := [.dat, .dat]) (gs := [.dat, .dat]) (rm := .dat) (cl := clA K) T.F_check_machines sc_check_machines rfl (by decide) rfl (by decide) (fun cdv A outer s H E hr => ?_)
  have tk := tkA_of (X := cxOf (CXA P w) P w K mg base ["a", "b"] "check_machines" (defScope s_check_machines) T.a_check_machines cdv A outer s H E) (E := E) rfl rfl rfl rfl
  exact (rs_cons (rs_expr (re_call (E := E) (ok_check_machine T) (hr.mono (by decide)) (by rfl) T.g_check_machine T.F_check_machine.kp T.b_check_machine (passA tk fun _ _ _ h => h) (fun _ _ _ h => h) (ra_cons (re_var rfl (pv 0)) ra_nil) (by rfl) (by decide)))
  (rs_cons (rs_expr (re_call (E := E) (ok_check_machine T) (hr.mono (by decide)) (by rfl) T.g_check_machine T.F_check_machine.kp T.b_check_machine (passA tk fun _ _ _ h => h) (fun _ _ _ h => h) (ra_cons (re_var rfl (pv 1)) ra_nil) (by rfl) (by decide)))
  (rs_one (rs_if (rt_cmp (op_neD hr.units) os_ne (re_ix ix_seq os_ix (re_var rfl (pv 0)) re_int (fun _ _ => rfl)) (re_ix ix_seq os_ix (re_var rfl (pv 1)) re_int (fun _ _ => rfl)) (nomark _))
  (rs_one (rs_raise (cl := clA K) (c := 2) rfl rfl tk (fun _ _ _ h => h) T.g_BadLetters T.x_BadLetters (by rfl)))
  rs_nil))))
theorem ok_recoloured (T : Tx K mg) : FnG P w K mg base (CXA P w) 1 T.a_recoloured T.d_recoloured ["rows", "colours"] (spF K [.dat, .dat] .dat (clA K) f_recoloured) := by
  refine ok_def (pm := [.dat, .dat]) (gs := [.dat, .dat, .dat, .oh, .ol, .dat, .dat, .dat, .dat]) (rm := .dat) (cl := clA K) T.F_recoloured sc_recoloured rfl (by decide) rfl (by decide) (fun cdv A outer s H E hr => ?_)
  have tk := tkA_of (X := cxOf (CXA P w) P w K mg base ["rows", "colours", "looks", "numbers", "found", "look", "row", "letter", "to"] "recoloured" (defScope s_recoloured) T.a_recoloured cdv A outer s H E) (E := E) rfl rfl rfl rfl
  exact (rs_cons (rs_asg rfl rfl (asg_fe (rs_setLc (i := 2) rfl sc_recoloured.nd rfl rfl (sw_true rfl rfl rfl (by decide +kernel)) (ri_seq rfl (re_var rfl (pv 0))) (blkOk_by (own := [("row", 6)]) rfl) rfl (all_dat rfl) (fun _ _ _ _ _ => (rg_name rfl rfl (pg_name (i := 6) sc_recoloured.nd rfl (by first | exact Or.inl rfl | exact Or.inr rfl)))) (fun _ _ _ _ _ => rts_nil) (fun _ _ _ _ _ => (re_callTy call_tuple_of cs_tuple (by rfl) T.n_tuple (by decide +kernel) (ra_cons (re_fe (rf_callB (cr_sortN (hu65 hr)) cn_sortN (by rfl) T.n_sorted (by decide +kernel) (ra_cons (re_fe (rf_callTy (call_keysH rfl) cn_keysH (by rfl) T.n_list (by decide +kernel) (ra_cons (re_fe (rf_dh rfl (hu65 hr) rfl sc_recoloured.nd (ri_seq rfl (re_var rfl (pv 6))) (blkOk_by (own := [("letter", 7), ("to", 8)]) rfl) rfl (all_dat rfl) (fun _ _ _ _ _ => (rg_tup rfl (rgs_cons (rg_name rfl rfl (pg_name (i := 7) sc_recoloured.nd rfl (by first | exact Or.inl rfl | exact Or.inr rfl))) (rgs_cons (rg_name rfl rfl (pg_name (i := 8) sc_recoloured.nd rfl (by first | exact Or.inl rfl | exact Or.inr rfl))) rgs_nil)) rfl)) (fun _ _ _ _ _ => rts_nil) (fun _ _ _ _ _ => (re_tup (ms := [(rd 7), (bin gIx (.d (rd 1)) (.d (rd 8)))]) (ra_cons (o := .d _) (re_var rfl (pv 7)) (ra_cons (o := .d _) (re_ix ix_seq os_ix (re_var rfl (pv 1)) (re_var rfl (pv 8)) (fun _ _ => rfl)) ra_nil)))) (fun _ _ _ _ _ => re_bl))) ra_nil))) ra_nil))) ra_nil))))))
  (rs_cons (rs_asgF (md := .oh) rfl rfl (ps_set (i := 3) sc_recoloured.nd rfl (Or.inl rfl) rf_newH))
  (rs_cons (rs_asgF (md := .ol) rfl rfl (ps_set (i := 4) sc_recoloured.nd rfl (Or.inl rfl) (rf_lst (ms := []) ra_nil)))
  (rs_cons (rs_for (passes_of rfl) rfl (ri_seq rfl (re_var rfl (pv 2))) (rg_name rfl rfl (pg_name (i := 5) sc_recoloured.nd rfl (by first | exact Or.inl rfl | exact Or.inr rfl)))
  (rs_cons (rs_if (rt_cmp (op_Hni (hu65 hr)) os_Hni (re_var rfl (pv 5)) (pv 3) (by rfl))
  (rs_one (rs_putH rfl (ps_asg (re_callB call_lenH cs_lenH (by rfl) T.n_len (by decide +kernel) (ra_cons (pv 3) ra_nil)) (pg_sub (pv 3) (re_var rfl (pv 5)) (set_H (hu65 hr))))))
  rs_nil)
  (rs_one (rs_app (m := (bin gHix (.o 3) (.d (rd 5)))) rfl (ps_expr (pe_bm PySem.F.plainAttrs_list PySem.F.slot_list_append PySem.F.type_list_append mt_append (pv 4) (pa_cons (re_ix (ix_H (hu65 hr)) os_Hix (pv 3) (re_var rfl (pv 5)) (fun _ _ => rfl)) pa_nil)))))))
  (rs_one (rs_retO rfl (by first | exact Or.inl rfl | exact Or.inr rfl) (pv 4)))))))
theorem ok_alike (T : Tx K mg) : FnG P w K mg base (CXA P w) 7 T.a_alike T.d_alike ["a", "b"] (spF K [.dat, .dat] .dat (clA K) f_alike) := by
  refine ok_def (pm := [.dat, .dat]) (gs := [.dat, .dat, .dat, .dat, .dat, .dat, .dat, .dat, .dat, .dat]) (rm := .dat) (cl := clA K) T.F_alike sc_alike rfl (by decide) rfl (by decide) (fun cdv A outer s H E hr => ?_)
  have tk := tkA_of (X := cxOf (CXA P w) P w K mg base ["a", "b", "shift", "rows", "colours", "many", "row", "letter", "to", "_"] "alike" (defScope s_alike) T.a_alike cdv A outer s H E) (E := E) rfl rfl rfl rfl
  exact (rs_cons (rs_expr (re_call (E := E) (ok_check_machines T) (hr.mono (by decide)) (by rfl) T.g_check_machines T.F_check_machines.kp T.b_check_machines (passA tk fun _ _ _ h => h) (fun _ _ _ h => h) (ra_cons (re_var rfl (pv 0)) (ra_cons (re_var rfl (pv 1)) ra_nil)) (by rfl) (by decide)))
  (rs_cons (rs_asg rfl rfl (ps_set (i := 2) sc_alike.nd rfl (Or.inr rfl) (re_callB (call_len) cs_len (by rfl) T.n_len (by decide +kernel) (ra_cons (re_ix ix_seq os_ix (re_var rfl (pv 0)) re_int (fun _ _ => rfl)) ra_nil))))
  (rs_cons (rs_asg rfl rfl (ps_set (i := 3) sc_alike.nd rfl (Or.inl rfl) (re_bin op_catS os_catL (re_fe (rf_callTy call_list_of cn_list (by rfl) T.n_list (by decide +kernel) (ra_cons (re_ix ix_seq os_ix (re_var rfl (pv 0)) re_int (fun _ _ => rfl)) ra_nil))) (re_fe (rf_lc rfl sc_alike.nd (ri_seq rfl (re_ix ix_seq os_ix (re_var rfl (pv 1)) re_int (fun _ _ => rfl))) (blkOk_by (own := [("row", 6)]) rfl) rfl (all_dat rfl) (fun _ _ _ _ _ => (rg_name rfl rfl (pg_name (i := 6) sc_alike.nd rfl (by first | exact Or.inl rfl | exact Or.inr rfl)))) (fun _ _ _ _ _ => rts_nil) (fun _ _ _ _ _ => (re_callTy call_tuple_of cs_tuple (by rfl) T.n_tuple (by decide +kernel) (ra_cons (re_fe (rf_lc rfl sc_alike.nd (ri_seq rfl (re_var rfl (pv 6))) (blkOk_by (own := [("letter", 7), ("to", 8)]) rfl) rfl (all_dat rfl) (fun _ _ _ _ _ => (rg_tup rfl (rgs_cons (rg_name rfl rfl (pg_name (i := 7) sc_alike.nd rfl (by first | exact Or.inl rfl | exact Or.inr rfl))) (rgs_cons (rg_name rfl rfl (pg_name (i := 8) sc_alike.nd rfl (by first | exact Or.inl rfl | exact Or.inr rfl))) rgs_nil)) rfl)) (fun _ _ _ _ _ => rts_nil) (fun _ _ _ _ _ => (re_tup (ms := [(rd 7), (bin Cr.gAdd (.d (rd 8)) (.d (rd 2)))]) (ra_cons (o := .d _) (re_var rfl (pv 7)) (ra_cons (o := .d _) (re_bin op_addA os_add (re_var rfl (pv 8)) (re_var rfl (pv 2))) ra_nil)))))) ra_nil))))))))
  (rs_cons (rs_asg rfl rfl (asg_fe (rs_setLc (i := 4) rfl sc_alike.nd rfl rfl (sw_true rfl rfl rfl (by decide +kernel)) (ri_seq rfl (re_var rfl (pv 3))) (blkOk_by (own := [("_", 9)]) rfl) rfl (all_dat rfl) (fun _ _ _ _ _ => (rg_name rfl rfl (pg_name (i := 9) sc_alike.nd rfl (by first | exact Or.inl rfl | exact Or.inr rfl)))) (fun _ _ _ _ _ => rts_nil) (fun _ _ _ _ _ => re_int))))
  (rs_cons (rs_asg rfl rfl (ps_set (i := 5) sc_alike.nd rfl (Or.inl rfl) re_int))
  (rs_one (rs_while (passes_of rfl) (rt_val re_bl)
  (rs_cons (rs_asg rfl rfl (ps_set (i := 4) sc_alike.nd rfl (Or.inl rfl) (re_call (E := E) (ok_recoloured T) (hr.mono (by decide)) (by rfl) T.g_recoloured T.F_recoloured.kp T.b_recoloured (passA tk fun _ _ _ h => h) (fun _ _ _ h => h) (ra_cons (re_var rfl (pv 3)) (ra_cons (re_var rfl (pv 4)) ra_nil)) (by rfl) (by decide))))
  (rs_cons (rs_if (rt_cmp (op_eqD hr.units) os_eq (re_bin op_addA os_add (re_callB (cr_max rfl) cs_maxL (by rfl) T.n_max (by decide +kernel) (ra_cons (re_var rfl (pv 4)) ra_nil)) re_int) (re_var rfl (pv 5)) (nomark _))
  (rs_one (rs_ret rfl (re_cmp (op_eqD hr.units) os_eq (re_ix ix_seq os_ix (re_var rfl (pv 4)) re_int (fun _ _ => rfl)) (re_ix ix_seq os_ix (re_var rfl (pv 4)) (re_var rfl (pv 2)) (fun _ _ => rfl)) (nomark _))))
  rs_nil)
  (rs_one (rs_asg rfl rfl (ps_set (i := 5) sc_alike.nd rfl (Or.inl rfl) (re_bin op_addA os_add (re_callB (cr_max rfl) cs_maxL (by rfl) T.n_max (by decide +kernel) (ra_cons (re_var rfl (pv 4)) ra_nil)) re_int)))))))))))))
theorem ok__law_turned (T : Tx K mg) : FnG P w K mg base (CXA P w) 2 T.a__law_turned T.d__law_turned ["_law_box_here", "_law_m"] (spF K [.ol, .dat] .dat (clA K) f__law_turned) := by
  refine ok_def (pm := [.ol, .dat]) (gs := [.ol, .dat, .dat, .dat, .dat]) (rm := .dat) (cl := clA K) T.F__law_turned sc__law_turned rfl (by decide) rfl (by decide) (fun cdv A outer s H E hr => ?_)
  have tk := tkA_of (X := cxOf (CXA P w) P w K mg base ["_law_box_here", "_law_m", "_law_at", "_law_row", "_law_k"] "_law_turned" (defScope s__law_turned) T.a__law_turned cdv A outer s H E) (E := E) rfl rfl rfl rfl
  exact (rs_cons (rs_asg rfl rfl (ps_set (i := 2) sc__law_turned.nd rfl (Or.inl rfl) (re_call (E := E) (ok__law_take T) (hr.mono (by decide)) (by rfl) T.g__law_take T.F__law_take.kp T.b__law_take (passA tk fun _ _ _ h => h) (fun _ _ _ h => h) (ra_cons (pv 0) (ra_cons (re_callB (call_len) cs_len (by rfl) T.n_len (by decide +kernel) (ra_cons (re_ix ix_seq os_ix (re_var rfl (pv 1)) re_int (fun _ _ => rfl)) ra_nil)) ra_nil)) (by rfl) (by decide))))
  (rs_cons (rs_asg rfl rfl (ps_set (i := 3) sc__law_turned.nd rfl (Or.inl rfl) (re_ix ix_seq os_ix (re_ix ix_seq os_ix (re_var rfl (pv 1)) re_int (fun _ _ => rfl)) (re_var rfl (pv 2)) (fun _ _ => rfl))))
  (rs_cons (rs_if (rw_and (rt_tru rfl (re_var rfl (pv 3))) (rw_and1 (rt_cmp (op_eqD hr.units) os_eq (re_call (E := E) (ok__law_take T) (hr.mono (by decide)) (by rfl) T.g__law_take T.F__law_take.kp T.b__law_take (passA tk fun _ _ _ h => h) (fun _ _ _ h => h) (ra_cons (pv 0) (ra_cons re_int ra_nil)) (by rfl) (by decide)) re_int (nomark _)))).pt
  (rs_cons (rs_asg rfl rfl (ps_set (i := 4) sc__law_turned.nd rfl (Or.inl rfl) (re_call (E := E) (ok__law_take T) (hr.mono (by decide)) (by rfl) T.g__law_take T.F__law_take.kp T.b__law_take (passA tk fun _ _ _ h => h) (fun _ _ _ h => h) (ra_cons (pv 0) (ra_cons (re_callB (call_len) cs_len (by rfl) T.n_len (by decide +kernel) (ra_cons (re_var rfl (pv 3)) ra_nil)) ra_nil)) (by rfl) (by decide))))
  (rs_one (rs_asg rfl rfl (ps_set (i := 3) sc__law_turned.nd rfl (Or.inl rfl) (re_bin op_addA os_add (re_sl rfl (re_var rfl (pv 3)) ro_non (ro_som (re_var rfl (pv 4)))) (re_sl rfl (re_var rfl (pv 3)) (ro_som (re_bin op_addA os_add (re_var rfl (pv 4)) re_int)) ro_non))))))
  (rs_one (rs_if (rt_cmp (op_gt) os_gt (re_ix ix_seq os_ix (re_var rfl (pv 1)) re_int (fun _ _ => rfl)) re_int (nomark _))
  (rs_one (rs_asg rfl rfl (ps_set (i := 3) sc__law_turned.nd rfl (Or.inl rfl) (re_callTy call_tuple_of cs_tuple (by rfl) T.n_tuple (by decide +kernel) (ra_cons (re_fe (rf_sortsetP rfl (hu64 hr) rfl (by rfl) T.n_sorted (by rfl) T.n_set (re_bin op_catS os_catL (re_fe (rf_callTy call_list_of cn_list (by rfl) T.n_list (by decide +kernel) (ra_cons (re_var rfl (pv 3)) ra_nil))) (re_fe (rf_lst (ms := [(tupE [(callF f__law_take [(.o 0), (.d (bin gIx (.d (rd 1)) (.d (cst (.int 0)))))]), (callF f__law_take [(.o 0), (.d (callB bLen [(.d (bin gIx (.d (rd 1)) (.d (cst (.int 1)))))]))])])]) (ra_cons (o := .d _) (re_tup (ms := [(callF f__law_take [(.o 0), (.d (bin gIx (.d (rd 1)) (.d (cst (.int 0)))))]), (callF f__law_take [(.o 0), (.d (callB bLen [(.d (bin gIx (.d (rd 1)) (.d (cst (.int 1)))))]))])]) (ra_cons (o := .d _) (re_call (E := E) (ok__law_take T) (hr.mono (by decide)) (by rfl) T.g__law_take T.F__law_take.kp T.b__law_take (passA tk fun _ _ _ h => h) (fun _ _ _ h => h) (ra_cons (pv 0) (ra_cons (re_ix ix_seq os_ix (re_var rfl (pv 1)) re_int (fun _ _ => rfl)) ra_nil)) (by rfl) (by decide)) (ra_cons (o := .d _) (re_call (E := E) (ok__law_take T) (hr.mono (by decide)) (by rfl) T.g__law_take T.F__law_take.kp T.b__law_take (passA tk fun _ _ _ h => h) (fun _ _ _ h => h) (ra_cons (pv 0) (ra_cons (re_callB (call_len) cs_len (by rfl) T.n_len (by decide +kernel) (ra_cons (re_ix ix_seq os_ix (re_var rfl (pv 1)) re_int (fun _ _ => rfl)) ra_nil)) ra_nil)) (by rfl) (by decide)) ra_nil))) ra_nil)))))) ra_nil)))))
  rs_nil)))
  (rs_one (rs_ret rfl (re_tup (ms := [(bin gIx (.d (rd 1)) (.d (cst (.int 0)))), (bin Cr.gAdd (.d (bin Cr.gAdd (.d (slE (.d (bin gIx (.d (rd 1)) (.d (cst (.int 1))))) none (some (rd 2)))) (.d (tupE [(rd 3)])))) (.d (slE (.d (bin gIx (.d (rd 1)) (.d (cst (.int 1))))) (some (bin Cr.gAdd (.d (rd 2)) (.d (cst (.int 1))))) none)))]) (ra_cons (o := .d _) (re_ix ix_seq os_ix (re_var rfl (pv 1)) re_int (fun _ _ => rfl)) (ra_cons (o := .d _) (re_bin op_addA os_add (re_bin op_addA os_add (re_sl rfl (re_ix ix_seq os_ix (re_var rfl (pv 1)) re_int (fun _ _ => rfl)) ro_non (ro_som (re_var rfl (pv 2)))) (re_tup (ms := [(rd 3)]) (ra_cons (o := .d _) (re_var rfl (pv 3)) ra_nil))) (re_sl rfl (re_ix ix_seq os_ix (re_var rfl (pv 1)) re_int (fun _ _ => rfl)) (ro_som (re_bin op_addA os_add (re_var rfl (pv 2)) re_int)) ro_non)) ra_nil))))))))
theorem ok__law_row_holds (T : Tx K mg) : FnG P w K mg base (CXA P w) 1 T.a__law_row_holds T.d__law_row_holds ["_law_one", "_law_p", "_law_two", "_law_q", "_law_left"] (spF K [.dat, .dat, .dat, .dat, .dat] .dat (clA K) f__law_row_holds) := by
  refine ok_def (pm := [.dat, .dat, .dat, .dat, .dat]) (gs := [.dat, .dat, .dat, .dat, .dat, .dat, .dat, .dat, .dat]) (rm := .dat) (cl := clA K) T.F__law_row_holds sc__law_row_holds rfl (by decide) rfl (by decide) (fun cdv A outer s H E hr => ?_)
  have tk := tkA_of (X := cxOf (CXA P w) P w K mg base ["_law_one", "_law_p", "_law_two", "_law_q", "_law_left", "_law_a", "_law_x", "_law_y", "_law_b"] "_law_row_holds" (defScope s__law_row_holds) T.a__law_row_holds cdv A outer s H E) (E := E) rfl rfl rfl rfl
  exact (rs_cons (rs_for (passes_of rfl) rfl (ri_seq rfl (re_ix ix_seq os_ix (re_ix ix_seq os_ix (re_var rfl (pv 0)) re_int (fun _ _ => rfl)) (re_var rfl (pv 1)) (fun _ _ => rfl))) (rg_tup rfl (rgs_cons (rg_name rfl rfl (pg_name (i := 5) sc__law_row_holds.nd rfl (by first | exact Or.inl rfl | exact Or.inr rfl))) (rgs_cons (rg_name rfl rfl (pg_name (i := 6) sc__law_row_holds.nd rfl (by first | exact Or.inl rfl | exact Or.inr rfl))) rgs_nil)) rfl)
  (rs_one (rs_if (rt_cmp (op_eqD hr.units) os_eq (re_fe (rf_lc rfl sc__law_row_holds.nd (ri_seq rfl (re_ix ix_seq os_ix (re_ix ix_seq os_ix (re_var rfl (pv 2)) re_int (fun _ _ => rfl)) (re_var rfl (pv 3)) (fun _ _ => rfl))) (blkOk_by (own := [("_law_b", 8), ("_law_y", 7)]) rfl) rfl (all_dat rfl) (fun _ _ _ _ _ => (rg_tup rfl (rgs_cons (rg_name rfl rfl (pg_name (i := 8) sc__law_row_holds.nd rfl (by first | exact Or.inl rfl | exact Or.inr rfl))) (rgs_cons (rg_name rfl rfl (pg_name (i := 7) sc__law_row_holds.nd rfl (by first | exact Or.inl rfl | exact Or.inr rfl))) rgs_nil)) rfl)) (fun _ _ _ _ _ => (rts_one (rw_and (rt_cmp (op_eqD hr.units) os_eq (re_var rfl (pv 8)) (re_var rfl (pv 5)) (nomark _)) (rw_and1 (rt_cmp (op_inA (hu65 hr)) os_in (re_tup (ms := [(rd 6), (rd 7)]) (ra_cons (o := .d _) (re_var rfl (pv 6)) (ra_cons (o := .d _) (re_var rfl (pv 7)) ra_nil))) (re_var rfl (pv 4)) (by rfl)))).pt)) (fun _ _ _ _ _ => (re_var rfl (pv 7))))) (re_fe (rf_lst (ms := []) ra_nil)) (nomark _))
  (rs_one (rs_ret rfl re_bl))
  rs_nil)))
  (rs_cons (rs_for (passes_of rfl) rfl (ri_seq rfl (re_ix ix_seq os_ix (re_ix ix_seq os_ix (re_var rfl (pv 2)) re_int (fun _ _ => rfl)) (re_var rfl (pv 3)) (fun _ _ => rfl))) (rg_tup rfl (rgs_cons (rg_name rfl rfl (pg_name (i := 5) sc__law_row_holds.nd rfl (by first | exact Or.inl rfl | exact Or.inr rfl))) (rgs_cons (rg_name rfl rfl (pg_name (i := 7) sc__law_row_holds.nd rfl (by first | exact Or.inl rfl | exact Or.inr rfl))) rgs_nil)) rfl)
  (rs_one (rs_if (rt_cmp (op_eqD hr.units) os_eq (re_fe (rf_lc rfl sc__law_row_holds.nd (ri_seq rfl (re_ix ix_seq os_ix (re_ix ix_seq os_ix (re_var rfl (pv 0)) re_int (fun _ _ => rfl)) (re_var rfl (pv 1)) (fun _ _ => rfl))) (blkOk_by (own := [("_law_b", 8), ("_law_x", 6)]) rfl) rfl (all_dat rfl) (fun _ _ _ _ _ => (rg_tup rfl (rgs_cons (rg_name rfl rfl (pg_name (i := 8) sc__law_row_holds.nd rfl (by first | exact Or.inl rfl | exact Or.inr rfl))) (rgs_cons (rg_name rfl rfl (pg_name (i := 6) sc__law_row_holds.nd rfl (by first | exact Or.inl rfl | exact Or.inr rfl))) rgs_nil)) rfl)) (fun _ _ _ _ _ => (rts_one (rw_and (rt_cmp (op_eqD hr.units) os_eq (re_var rfl (pv 8)) (re_var rfl (pv 5)) (nomark _)) (rw_and1 (rt_cmp (op_inA (hu65 hr)) os_in (re_tup (ms := [(rd 6), (rd 7)]) (ra_cons (o := .d _) (re_var rfl (pv 6)) (ra_cons (o := .d _) (re_var rfl (pv 7)) ra_nil))) (re_var rfl (pv 4)) (by rfl)))).pt)) (fun _ _ _ _ _ => (re_var rfl (pv 6))))) (re_fe (rf_lst (ms := []) ra_nil)) (nomark _))
  (rs_one (rs_ret rfl re_bl))
  rs_nil)))
  (rs_one (rs_ret rfl re_bl))))
theorem ok__law_alike (T : Tx K mg) : FnG P w K mg base (CXA P w) 2 T.a__law_alike T.d__law_alike ["_law_one", "_law_two"] (spF K [.dat, .dat] .dat (clA K) f__law_alike) := by
  refine ok_def (pm := [.dat, .dat]) (gs := [.dat, .dat, .dat, .dat, .dat, .dat, .dat, .dat]) (rm := .dat) (cl := clA K) T.F__law_alike sc__law_alike rfl (by decide) rfl (by decide) (fun cdv A outer s H E hr => ?_)
  have tk := tkA_of (X := cxOf (CXA P w) P w K mg base ["_law_one", "_law_two", "_law_left", "_law_p", "_law_turn", "_law_kept", "_law_q", "_law_pair"] "_law_alike" (defScope s__law_alike) T.a__law_alike cdv A outer s H E) (E := E) rfl rfl rfl rfl
  exact (rs_cons (rs_asg rfl rfl (ps_set (i := 2) sc__law_alike.nd rfl (Or.inr rfl) (re_fe (rf_lst (ms := []) ra_nil))))
  (rs_cons (rs_for (passes_of rfl) rfl (ri_rng1 (by rfl) T.n_range (ra_cons (re_callB (call_len) cs_len (by rfl) T.n_len (by decide +kernel) (ra_cons (re_ix ix_seq os_ix (re_var rfl (pv 0)) re_int (fun _ _ => rfl)) ra_nil)) ra_nil)) (rg_name rfl rfl (pg_name (i := 3) sc__law_alike.nd rfl (by first | exact Or.inl rfl | exact Or.inr rfl)))
  (rs_one (rs_asg rfl rfl (ps_set (i := 2) sc__law_alike.nd rfl (Or.inr rfl) (re_bin op_catS os_catL (re_var rfl (pv 2)) (re_fe (rf_lc rfl sc__law_alike.nd (ri_rng1 (by rfl) T.n_range (ra_cons (re_callB (call_len) cs_len (by rfl) T.n_len (by decide +kernel) (ra_cons (re_ix ix_seq os_ix (re_var rfl (pv 1)) re_int (fun _ _ => rfl)) ra_nil)) ra_nil)) (blkOk_by (own := [("_law_q", 6)]) rfl) rfl (all_dat rfl) (fun _ _ _ _ _ => (rg_name rfl rfl (pg_name (i := 6) sc__law_alike.nd rfl (by first | exact Or.inl rfl | exact Or.inr rfl)))) (fun _ _ _ _ _ => rts_nil) (fun _ _ _ _ _ => (re_tup (ms := [(rd 3), (rd 6)]) (ra_cons (o := .d _) (re_var rfl (pv 3)) (ra_cons (o := .d _) (re_var rfl (pv 6)) ra_nil)))))))))))
  (rs_cons (rs_for (passes_of rfl) rfl (ri_rng1 (by rfl) T.n_range (ra_cons (re_bin op_addA os_add (re_bin op_mul os_mul (re_callB (call_len) cs_len (by rfl) T.n_len (by decide +kernel) (ra_cons (re_ix ix_seq os_ix (re_var rfl (pv 0)) re_int (fun _ _ => rfl)) ra_nil)) (re_callB (call_len) cs_len (by rfl) T.n_len (by decide +kernel) (ra_cons (re_ix ix_seq os_ix (re_var rfl (pv 1)) re_int (fun _ _ => rfl)) ra_nil))) re_int) ra_nil)) (rg_name rfl rfl (pg_name (i := 4) sc__law_alike.nd rfl (by first | exact Or.inl rfl | exact Or.inr rfl)))
  (rs_cons (rs_asg rfl rfl (asg_fe (rs_setLc (i := 5) rfl sc__law_alike.nd rfl rfl (sw_true rfl rfl rfl (by decide +kernel)) (ri_seq rfl (re_var rfl (pv 2))) (blkOk_by (own := [("_law_pair", 7)]) rfl) rfl (all_dat rfl) (fun _ _ _ _ _ => (rg_name rfl rfl (pg_name (i := 7) sc__law_alike.nd rfl (by first | exact Or.inl rfl | exact Or.inr rfl)))) (fun _ _ _ _ _ => (rts_one (rt_val (re_call (E := E0) (ok__law_row_holds T) (hr.mono (by decide)) (by rfl) T.g__law_row_holds T.F__law_row_holds.kp T.b__law_row_holds passL0 (fun _ _ _ h => h) (ra_cons (re_var rfl (pv 0)) (ra_cons (re_ix ix_seq os_ix (re_var rfl (pv 7)) re_int (fun _ _ => rfl)) (ra_cons (re_var rfl (pv 1)) (ra_cons (re_ix ix_seq os_ix (re_var rfl (pv 7)) re_int (fun _ _ => rfl)) (ra_cons (re_var rfl (pv 2)) ra_nil))))) (by rfl) (by decide))))) (fun _ _ _ _ _ => (re_var rfl (pv 7))))))
  (rs_cons (rs_if (rt_cmp (op_eqD hr.units) os_eq (re_callB (call_len) cs_len (by rfl) T.n_len (by decide +kernel) (ra_cons (re_var rfl (pv 5)) ra_nil)) (re_callB (call_len) cs_len (by rfl) T.n_len (by decide +kernel) (ra_cons (re_var rfl (pv 2)) ra_nil)) (nomark _))
  (rs_one (rs_ret rfl (re_cmp (op_inA (hu65 hr)) os_in (re_tup (ms := [(cst (.int 0)), (cst (.int 0))]) (ra_cons (o := .d _) re_int (ra_cons (o := .d _) re_int ra_nil))) (re_var rfl (pv 2)) (by rfl))))
  rs_nil)
  (rs_one (rs_asg rfl rfl (ps_set (i := 2) sc__law_alike.nd rfl (Or.inr rfl) (re_var rfl (pv 5))))))))
  (rs_one (rs_ret rfl (re_cmp (op_inA (hu65 hr)) os_in (re_tup (ms := [(cst (.int 0)), (cst (.int 0))]) (ra_cons (o := .d _) re_int (ra_cons (o := .d _) re_int ra_nil))) (re_var rfl (pv 2)) (by rfl)))))))
theorem ok__law_ring (T : Tx K mg) : FnG P w K mg base (CXA P w) 1 T.a__law_ring T.d__law_ring ["_law_size"] (spF K [.dat] .dat (clA K) f__law_ring) := by
  refine ok_def (pm := [.dat]) (gs := [.dat, .dat]) (rm := .dat) (cl := clA K) T.F__law_ring sc__law_ring rfl (by decide) rfl (by decide) (fun cdv A outer s H E hr => ?_)
  have tk := tkA_of (X := cxOf (CXA P w) P w K mg base ["_law_size", "_law_k"] "_law_ring" (defScope s__law_ring) T.a__law_ring cdv A outer s H E) (E := E) rfl rfl rfl rfl
  exact (rs_one (rs_ret rfl (re_tup (ms := [(cst (.int 1)), (callB bTuple [(.d (lcE [1] (itR rng1 [(.d (rd 0))]) (tgN 1) (pu true) (tupE [(tupE [(cst (.int 0)), (bin gMod (.d (callB bInt [(.d (bin Cr.gAdd (.d (rd 1)) (.d (cst (.int 1)))))])) (.d (rd 0)))])])))])]) (ra_cons (o := .d _) re_int (ra_cons (o := .d _) (re_callTy call_tuple_of cs_tuple (by rfl) T.n_tuple (by decide +kernel) (ra_cons (re_fe (rf_lc rfl sc__law_ring.nd (ri_rng1 (by rfl) T.n_range (ra_cons (re_var rfl (pv 0)) ra_nil)) (blkOk_by (own := [("_law_k", 1)]) rfl) rfl (all_dat rfl) (fun _ _ _ _ _ => (rg_name rfl rfl (pg_name (i := 1) sc__law_ring.nd rfl (by first | exact Or.inl rfl | exact Or.inr rfl)))) (fun _ _ _ _ _ => rts_nil) (fun _ _ _ _ _ => (re_tup (ms := [(tupE [(cst (.int 0)), (bin gMod (.d (callB bInt [(.d (bin Cr.gAdd (.d (rd 1)) (.d (cst (.int 1)))))])) (.d (rd 0)))])]) (ra_cons (o := .d _) (re_tup (ms := [(cst (.int 0)), (bin gMod (.d (callB bInt [(.d (bin Cr.gAdd (.d (rd 1)) (.d (cst (.int 1)))))])) (.d (rd 0)))]) (ra_cons (o := .d _) re_int (ra_cons (o := .d _) (re_bin op_mod os_mod (re_callTy call_int1 cs_int (by rfl) T.n_int (by decide +kernel) (ra_cons (re_bin op_addA os_add (re_var rfl (pv 1)) re_int) ra_nil)) (re_var rfl (pv 0))) ra_nil))) ra_nil))))) ra_nil)) ra_nil)))))
theorem ok__law_rings (T : Tx K mg) : FnG P w K mg base (CXA P w) 8 T.a__law_rings T.d__law_rings ["_law_box_here"] (spF K [.ol] .dat (clA K) f__law_rings) := by
  refine ok_def (pm := [.ol]) (gs := [.ol, .dat, .dat, .dat]) (rm := .dat) (cl := clA K) T.F__law_rings sc__law_rings rfl (by decide) rfl (by decide) (fun cdv A outer s H E hr => ?_)
  have tk := tkA_of (X := cxOf (CXA P w) P w K mg base ["_law_box_here", "_law_size", "_law_many", "_law_cut"] "_law_rings" (defScope s__law_rings) T.a__law_rings cdv A outer s H E) (E := E) rfl rfl rfl rfl
  exact (rs_cons (rs_par (i := 1) (j := 2) rfl rfl rfl rfl (ps_par (i := 1) (j := 2) rfl sc__law_rings.nd rfl rfl (by decide) rfl rfl (ra_cons (o := .d _) (re_bin op_addA os_add re_int (re_call (E := E) (ok__law_take T) (hr.mono (by decide)) (by rfl) T.g__law_take T.F__law_take.kp T.b__law_take (passA tk fun _ _ _ h => h) (fun _ _ _ h => h) (ra_cons (pv 0) (ra_cons re_int ra_nil)) (by rfl) (by decide))) (ra_cons (o := .d _) (re_bin op_addA os_add re_int (re_call (E := E) (ok__law_take T) (hr.mono (by decide)) (by rfl) T.g__law_take T.F__law_take.kp T.b__law_take (passA tk fun _ _ _ h => h) (fun _ _ _ h => h) (ra_cons (pv 0) (ra_cons re_int ra_nil)) (by rfl) (by decide))) ra_nil)) (by rfl)))
  (rs_cons (rs_asg rfl rfl (ps_set (i := 3) sc__law_rings.nd rfl (Or.inl rfl) (re_call (E := E) (ok__law_ring T) (hr.mono (by decide)) (by rfl) T.g__law_ring T.F__law_ring.kp T.b__law_ring (passA tk fun _ _ _ h => h) (fun _ _ _ h => h) (ra_cons (re_var rfl (pv 2)) ra_nil) (by rfl) (by decide))))
  (rs_cons (rs_asg rfl rfl (ps_set (i := 3) sc__law_rings.nd rfl (Or.inl rfl) (re_tup (ms := [(cst (.int 1)), (bin Cr.gAdd (.d (slE (.d (bin gIx (.d (rd 3)) (.d (cst (.int 1))))) none (some (bin Cr.gSub (.d (rd 2)) (.d (cst (.int 1))))))) (.d (tupE [(tupE [])])))]) (ra_cons (o := .d _) re_int (ra_cons (o := .d _) (re_bin op_addA os_add (re_sl rfl (re_ix ix_seq os_ix (re_var rfl (pv 3)) re_int (fun _ _ => rfl)) ro_non (ro_som (re_bin op_sub os_sub (re_var rfl (pv 2)) re_int))) (re_tup (ms := [(tupE [])]) (ra_cons (o := .d _) (re_tup (ms := []) ra_nil) ra_nil))) ra_nil)))))
  (rs_one (rs_ret rfl (re_and (re_cmp (op_isB) os_isB (re_call (E := E) (ok_alike T) (hr.mono (by decide)) (by rfl) T.g_alike T.F_alike.kp T.b_alike (passA tk fun _ _ _ h => h) (fun _ _ _ h => h) (ra_cons (re_call (E := E) (ok__law_ring T) (hr.mono (by decide)) (by rfl) T.g__law_ring T.F__law_ring.kp T.b__law_ring (passA tk fun _ _ _ h => h) (fun _ _ _ h => h) (ra_cons (re_var rfl (pv 1)) ra_nil) (by rfl) (by decide)) (ra_cons (re_call (E := E) (ok__law_ring T) (hr.mono (by decide)) (by rfl) T.g__law_ring T.F__law_ring.kp T.b__law_ring (passA tk fun _ _ _ h => h) (fun _ _ _ h => h) (ra_cons (re_var rfl (pv 2)) ra_nil) (by rfl) (by decide)) ra_nil)) (by rfl) (by decide)) re_bl (nomark _)) (re_and (re_cmp (op_isB) os_isB (re_call (E := E) (ok_alike T) (hr.mono (by decide)) (by rfl) T.g_alike T.F_alike.kp T.b_alike (passA tk fun _ _ _ h => h) (fun _ _ _ h => h) (ra_cons (re_call (E := E) (ok__law_ring T) (hr.mono (by decide)) (by rfl) T.g__law_ring T.F__law_ring.kp T.b__law_ring (passA tk fun _ _ _ h => h) (fun _ _ _ h => h) (ra_cons (re_var rfl (pv 1)) ra_nil) (by rfl) (by decide)) (ra_cons (re_var rfl (pv 3)) ra_nil)) (by rfl) (by decide)) re_bl (nomark _)) (pe_one (re_cmp (op_isB) os_isB (re_call (E := E) (ok_alike T) (hr.mono (by decide)) (by rfl) T.g_alike T.F_alike.kp T.b_alike (passA tk fun _ _ _ h => h) (fun _ _ _ h => h) (ra_cons (re_var rfl (pv 3)) (ra_cons (re_var rfl (pv 3)) ra_nil)) (by rfl) (by decide)) re_bl (nomark _))))))))))
theorem ok_law (T : Tx K mg) : FnG P w K mg base (CXA P w) 9 T.a_law T.d_law ["_law_script"] (spF K [.dat] .dat (clA K) f_law) := by
  refine ok_def (pm := [.dat]) (gs := [.dat, .ol, .dat, .dat, .dat, .dat, .dat]) (rm := .dat) (cl := clA K) T.F_law sc_law rfl (by decide) rfl (by decide) (fun cdv A outer s H E hr => ?_)
  have tk := tkA_of (X := cxOf (CXA P w) P w K mg base ["_law_script", "_law_box_here", "_law_n", "_law_m", "_law_other", "_law_turned_here", "_law_due"] "law" (defScope s_law) T.a_law cdv A outer s H E) (E := E) rfl rfl rfl rfl
  exact (rs_cons (rs_asgF (md := .ol) rfl rfl (ps_set (i := 1) sc_law.nd rfl (Or.inl rfl) (rf_call (E := E) (ok__law_box T) (hr.mono (by decide)) (by rfl) T.g__law_box T.F__law_box.kp T.b__law_box (passA tk fun _ _ _ h => h) (fun _ _ _ h => h) (ra_cons (re_var rfl (pv 0)) ra_nil) (by rfl) (by decide))))
  (rs_cons (rs_asg rfl rfl (ps_set (i := 2) sc_law.nd rfl (Or.inl rfl) (re_call (E := E) (ok__law_take T) (hr.mono (by decide)) (by rfl) T.g__law_take T.F__law_take.kp T.b__law_take (passA tk fun _ _ _ h => h) (fun _ _ _ h => h) (ra_cons (pv 1) (ra_cons re_int ra_nil)) (by rfl) (by decide))))
  (rs_cons (rs_asg rfl rfl (ps_set (i := 3) sc_law.nd rfl (Or.inl rfl) (re_call (E := E) (ok__law_machine T) (hr.mono (by decide)) (by rfl) T.g__law_machine T.F__law_machine.kp T.b__law_machine (passA tk fun _ _ _ h => h) (fun _ _ _ h => h) (ra_cons (pv 1) (ra_cons (re_var rfl (pv 2)) (ra_cons re_int ra_nil))) (by rfl) (by decide))))
  (rs_cons (rs_asg rfl rfl (ps_set (i := 4) sc_law.nd rfl (Or.inl rfl) (re_call (E := E) (ok__law_twinned T) (hr.mono (by decide)) (by rfl) T.g__law_twinned T.F__law_twinned.kp T.b__law_twinned (passA tk fun _ _ _ h => h) (fun _ _ _ h => h) (ra_cons (pv 1) (ra_cons (re_var rfl (pv 3)) ra_nil)) (by rfl) (by decide))))
  (rs_cons (rs_if (rw_or (rt_cmp (op_noB) os_noB (re_call (E := E) (ok_alike T) (hr.mono (by decide)) (by rfl) T.g_alike T.F_alike.kp T.b_alike (passA tk fun _ _ _ h => h) (fun _ _ _ h => h) (ra_cons (re_var rfl (pv 3)) (ra_cons (re_var rfl (pv 4)) ra_nil)) (by rfl) (by decide)) re_bl (nomark _)) (rw_or (rt_cmp (op_noB) os_noB (re_call (E := E) (ok_alike T) (hr.mono (by decide)) (by rfl) T.g_alike T.F_alike.kp T.b_alike (passA tk fun _ _ _ h => h) (fun _ _ _ h => h) (ra_cons (re_var rfl (pv 4)) (ra_cons (re_var rfl (pv 3)) ra_nil)) (by rfl) (by decide)) re_bl (nomark _)) (rw_or1 (rt_cmp (op_noB) os_noB (re_call (E := E) (ok_alike T) (hr.mono (by decide)) (by rfl) T.g_alike T.F_alike.kp T.b_alike (passA tk fun _ _ _ h => h) (fun _ _ _ h => h) (ra_cons (re_var rfl (pv 3)) (ra_cons (re_var rfl (pv 3)) ra_nil)) (by rfl) (by decide)) re_bl (nomark _))))).pt
  (rs_one (rs_ret rfl re_bl))
  rs_nil)
  (rs_cons (rs_asg rfl rfl (ps_set (i := 5) sc_law.nd rfl (Or.inl rfl) (re_call (E := E) (ok__law_turned T) (hr.mono (by decide)) (by rfl) T.g__law_turned T.F__law_turned.kp T.b__law_turned (passA tk fun _ _ _ h => h) (fun _ _ _ h => h) (ra_cons (pv 1) (ra_cons (re_call (E := E) (ok__law_pick T) (hr.mono (by decide)) (by rfl) T.g__law_pick T.F__law_pick.kp T.b__law_pick (passA tk fun _ _ _ h => h) (fun _ _ _ h => h) (ra_cons (pv 1) (ra_cons (re_fe (rf_lst (ms := [(rd 3), (rd 4), (callF f__law_machine [(.o 1), (.d (rd 2)), (.d (cst (.int 5)))])]) (ra_cons (o := .d _) (re_var rfl (pv 3)) (ra_cons (o := .d _) (re_var rfl (pv 4)) (ra_cons (o := .d _) (re_call (E := E) (ok__law_machine T) (hr.mono (by decide)) (by rfl) T.g__law_machine T.F__law_machine.kp T.b__law_machine (passA tk fun _ _ _ h => h) (fun _ _ _ h => h) (ra_cons (pv 1) (ra_cons (re_var rfl (pv 2)) (ra_cons re_int ra_nil))) (by rfl) (by decide)) ra_nil))))) ra_nil)) (by rfl) (by decide)) ra_nil)) (by rfl) (by decide))))
  (rs_cons (rs_asg rfl rfl (ps_set (i := 6) sc_law.nd rfl (Or.inl rfl) (re_call (E := E) (ok__law_alike T) (hr.mono (by decide)) (by rfl) T.g__law_alike T.F__law_alike.kp T.b__law_alike (passA tk fun _ _ _ h => h) (fun _ _ _ h => h) (ra_cons (re_var rfl (pv 3)) (ra_cons (re_var rfl (pv 5)) ra_nil)) (by rfl) (by decide))))
  (rs_one (rs_ret rfl (re_and (re_reprEq rfl hr.g (hu65 hr) (by rfl) T.n_repr (re_call (E := E) (ok_alike T) (hr.mono (by decide)) (by rfl) T.g_alike T.F_alike.kp T.b_alike (passA tk fun _ _ _ h => h) (fun _ _ _ h => h) (ra_cons (re_var rfl (pv 3)) (ra_cons (re_var rfl (pv 5)) ra_nil)) (by rfl) (by decide)) (re_var rfl (pv 6))) (re_and (re_reprEq rfl hr.g (hu65 hr) (by rfl) T.n_repr (re_call (E := E) (ok_alike T) (hr.mono (by decide)) (by rfl) T.g_alike T.F_alike.kp T.b_alike (passA tk fun _ _ _ h => h) (fun _ _ _ h => h) (ra_cons (re_var rfl (pv 5)) (ra_cons (re_var rfl (pv 3)) ra_nil)) (by rfl) (by decide)) (re_var rfl (pv 6))) (pe_one (re_call (E := E) (ok__law_rings T) (hr.mono (by decide)) (by rfl) T.g__law_rings T.F__law_rings.kp T.b__law_rings (passA tk fun _ _ _ h => h) (fun _ _ _ h => h) (ra_cons (pv 1) ra_nil) (by rfl) (by decide))))))))))))))
end
def dd__law_box : He.DefD := ⟨("_law_box", none), "_law_box", "_law_box", defArgs s__law_box, defBody s__law_box, defScope s__law_box, [], []⟩
def dd__law_take : He.DefD := ⟨("_law_take", none), "_law_take", "_law_take", defArgs s__law_take, defBody s__law_take, defScope s__law_take, [], []⟩
def dd__law_pick : He.DefD := ⟨("_law_pick", none), "_law_pick", "_law_pick", defArgs s__law_pick, defBody s__law_pick, defScope s__law_pick, [], []⟩
def dd__law_machine : He.DefD := ⟨("_law_machine", none), "_law_machine", "_law_machine", defArgs s__law_machine, defBody s__law_machine, defScope s__law_machine, [], []⟩
def dd__law_twinned : He.DefD := ⟨("_law_twinned", none), "_law_twinned", "_law_twinned", defArgs s__law_twinned, defBody s__law_twinned, defScope s__law_twinned, [], []⟩
def dd_is_whole : He.DefD := ⟨("is_whole", none), "is_whole", "is_whole", defArgs s_is_whole, defBody s_is_whole, defScope s_is_whole, [], []⟩
def dd_is_within : He.DefD := ⟨("is_within", none), "is_within", "is_within", defArgs s_is_within, defBody s_is_within, defScope s_is_within, [], []⟩
def dd_is_row : He.DefD := ⟨("is_row", none), "is_row", "is_row", defArgs s_is_row, defBody s_is_row, defScope s_is_row, [], []⟩
def dd_is_machine : He.DefD := ⟨("is_machine", none), "is_machine", "is_machine", defArgs s_is_machine, defBody s_is_machine, defScope s_is_machine, [], []⟩
def dd_check_machine : He.DefD := ⟨("check_machine", none), "check_machine", "check_machine", defArgs s_check_machine, defBody s_check_machine, defScope s_check_machine, [], []⟩
def dd_check_machines : He.DefD := ⟨("check_machines", none), "check_machines", "check_machines", defArgs s_check_machines, defBody s_check_machines, defScope s_check_machines, [], []⟩
def dd_recoloured : He.DefD := ⟨("recoloured", none), "recoloured", "recoloured", defArgs s_recoloured, defBody s_recoloured, defScope s_recoloured, [], []⟩
def dd_alike : He.DefD := ⟨("alike", none), "alike", "alike", defArgs s_alike, defBody s_alike, defScope s_alike, [], []⟩
def dd__law_turned : He.DefD := ⟨("_law_turned", none), "_law_turned", "_law_turned", defArgs s__law_turned, defBody s__law_turned, defScope s__law_turned, [], []⟩
def dd__law_row_holds : He.DefD := ⟨("_law_row_holds", none), "_law_row_holds", "_law_row_holds", defArgs s__law_row_holds, defBody s__law_row_holds, defScope s__law_row_holds, [], []⟩
def dd__law_alike : He.DefD := ⟨("_law_alike", none), "_law_alike", "_law_alike", defArgs s__law_alike, defBody s__law_alike, defScope s__law_alike, [], []⟩
def dd__law_ring : He.DefD := ⟨("_law_ring", none), "_law_ring", "_law_ring", defArgs s__law_ring, defBody s__law_ring, defScope s__law_ring, [], []⟩
def dd__law_rings : He.DefD := ⟨("_law_rings", none), "_law_rings", "_law_rings", defArgs s__law_rings, defBody s__law_rings, defScope s__law_rings, [], []⟩
def dd_law : He.DefD := ⟨("law", none), "law", "law", defArgs s_law, defBody s_law, defScope s_law, [], []⟩
def fnl : List He.DefD := [dd__law_box, dd__law_take, dd__law_pick, dd__law_machine, dd__law_twinned, dd_is_whole, dd_is_within, dd_is_row, dd_is_machine, dd_check_machine, dd_check_machines, dd_recoloured, dd_alike, dd__law_turned, dd__law_row_holds, dd__law_alike, dd__law_ring, dd__law_rings, dd_law]
def fal : List He.Fa := List.append [.glo "_law_box", .glo "_law_take", .glo "_law_pick", .glo "_law_machine", .glo "_law_twinned", .glo "is_whole", .glo "is_within", .glo "is_row", .glo "is_machine", .glo "check_machine", .glo "check_machines", .glo "recoloured", .glo "alike", .glo "_law_turned", .glo "_law_row_holds", .glo "_law_alike", .glo "_law_ring", .glo "_law_rings", .glo "law", .free "int", .free "abs", .free "len", .free "range", .free "sorted", .free "tuple", .free "list", .free "isinstance", .free "bool", .free "sum", .free "max"] ([.free "set", .free "repr", .int "MOST_LETTERS" 5, .int "MOST_ROWS" 400, .int "MOST_EDGES" 6000, .glo "BadMachine", .exc "BadMachine", .glo "BadLetters", .exc "BadLetters"])
def exl (K : PySem.W.Frag) : List Bool := [true]
abbrev R : PySem.W.OpenRow := PySem.W.OpenLaw.row PySem.Challenge.rw_spandrel_k06_machines_that_are_alike
abbrev hk : PySem.W.Hook := hookZ 4 fal fnl (fun K => (exl K).all id)
def ob (s : PySem.W.SharedT) : He.AlD × Bool := obsZ 4 fal fnl (fun K => (exl K).all id) (HandSHeadRun.getT s)
theorem ob_eq (s : PySem.W.SharedT) : ob s = hk.obs s.abs := obsZ_eq (HandSHeadRun.getT_eq s)
def loose : List Str := List.append ["SpandrelError", "BadMachine", "BadLetters", "is_whole", "is_within", "MOST_LETTERS", "MOST_ROWS", "MOST_EDGES", "is_row", "is_machine", "check_machine", "check_machines", "recoloured", "alike", "_law_box", "_law_take", "_law_pick", "_law_letters", "_law_machine", "_law_offer", "_law_demand", "_law_fall", "_law_hollow", "_law_keeper", "_law_keeps", "_law_row_holds", "_law_alike", "_law_twinned", "_law_turned", "_law_ring"] (["_law_rings"])
theorem run (w : World) : HandSHeadRun.RunEq R (PySem.W.view R.prog [35]) hk ob 2360 loose w := by
  intro os
  kernel_rfl
theorem facts {K : PySem.W.Frag} {h : Heap} {mg : Str → Option Value} (X : K.In h) (G : h.Ns mainGlobals mg) (c : He.SaysD fal fnl K) (cx : (exl K).all id = true) : Nonempty (Tx K mg) := by
  obtain ⟨d0, F0⟩ := c.def_ 0 (d := dd__law_box) rfl
  obtain ⟨d1, F1⟩ := c.def_ 1 (d := dd__law_take) rfl
  obtain ⟨d2, F2⟩ := c.def_ 2 (d := dd__law_pick) rfl
  obtain ⟨d3, F3⟩ := c.def_ 3 (d := dd__law_machine) rfl
  obtain ⟨d4, F4⟩ := c.def_ 4 (d := dd__law_twinned) rfl
  obtain ⟨d5, F5⟩ := c.def_ 5 (d := dd_is_whole) rfl
  obtain ⟨d6, F6⟩ := c.def_ 6 (d := dd_is_within) rfl
  obtain ⟨d7, F7⟩ := c.def_ 7 (d := dd_is_row) rfl
  obtain ⟨d8, F8⟩ := c.def_ 8 (d := dd_is_machine) rfl
  obtain ⟨d9, F9⟩ := c.def_ 9 (d := dd_check_machine) rfl
  obtain ⟨d10, F10⟩ := c.def_ 10 (d := dd_check_machines) rfl
  obtain ⟨d11, F11⟩ := c.def_ 11 (d := dd_recoloured) rfl
  obtain ⟨d12, F12⟩ := c.def_ 12 (d := dd_alike) rfl
  obtain ⟨d13, F13⟩ := c.def_ 13 (d := dd__law_turned) rfl
  obtain ⟨d14, F14⟩ := c.def_ 14 (d := dd__law_row_holds) rfl
  obtain ⟨d15, F15⟩ := c.def_ 15 (d := dd__law_alike) rfl
  obtain ⟨d16, F16⟩ := c.def_ 16 (d := dd__law_ring) rfl
  obtain ⟨d17, F17⟩ := c.def_ 17 (d := dd__law_rings) rfl
  obtain ⟨d18, F18⟩ := c.def_ 18 (d := dd_law) rfl
  obtain ⟨t_MOST_LETTERS, e_MOST_LETTERS⟩ := He.int_ok X G (c.fact 32 (f := .int "MOST_LETTERS" 5) rfl)
  obtain ⟨t_MOST_ROWS, e_MOST_ROWS⟩ := He.int_ok X G (c.fact 33 (f := .int "MOST_ROWS" 400) rfl)
  obtain ⟨t_MOST_EDGES, e_MOST_EDGES⟩ := He.int_ok X G (c.fact 34 (f := .int "MOST_EDGES" 6000) rfl)
  exact ⟨⟨He.fAd K ("_law_box", none),
    d0,
    He.fAd K ("_law_take", none),
    d1,
    He.fAd K ("_law_pick", none),
    d2,
    He.fAd K ("_law_machine", none),
    d3,
    He.fAd K ("_law_twinned", none),
    d4,
    He.fAd K ("is_whole", none),
    d5,
    He.fAd K ("is_within", none),
    d6,
    He.fAd K ("is_row", none),
    d7,
    He.fAd K ("is_machine", none),
    d8,
    He.fAd K ("check_machine", none),
    d9,
    He.fAd K ("check_machines", none),
    d10,
    He.fAd K ("recoloured", none),
    d11,
    He.fAd K ("alike", none),
    d12,
    He.fAd K ("_law_turned", none),
    d13,
    He.fAd K ("_law_row_holds", none),
    d14,
    He.fAd K ("_law_alike", none),
    d15,
    He.fAd K ("_law_ring", none),
    d16,
    He.fAd K ("_law_rings", none),
    d17,
    He.fAd K ("law", none),
    d18,
    (.int 5 t_MOST_LETTERS),
    (.int 400 t_MOST_ROWS),
    (.int 6000 t_MOST_EDGES),
    F0,
    He.glo_ok X G (c.fact 0 (f := .glo "_law_box") rfl),
    F0.bindsN fun _ _ _ _ _ _ us hl => match us, hl with | [_], _ => rfl,
    F1,
    He.glo_ok X G (c.fact 1 (f := .glo "_law_take") rfl),
    F1.bindsN fun _ _ _ _ _ _ us hl => match us, hl with | [_, _], _ => rfl,
    F2,
    He.glo_ok X G (c.fact 2 (f := .glo "_law_pick") rfl),
    F2.bindsN fun _ _ _ _ _ _ us hl => match us, hl with | [_, _], _ => rfl,
    F3,
    He.glo_ok X G (c.fact 3 (f := .glo "_law_machine") rfl),
    F3.bindsN fun _ _ _ _ _ _ us hl => match us, hl with | [_, _, _], _ => rfl,
    F4,
    He.glo_ok X G (c.fact 4 (f := .glo "_law_twinned") rfl),
    F4.bindsN fun _ _ _ _ _ _ us hl => match us, hl with | [_, _], _ => rfl,
    F5,
    He.glo_ok X G (c.fact 5 (f := .glo "is_whole") rfl),
    F5.bindsN fun _ _ _ _ _ _ us hl => match us, hl with | [_], _ => rfl,
    F6,
    He.glo_ok X G (c.fact 6 (f := .glo "is_within") rfl),
    F6.bindsN fun _ _ _ _ _ _ us hl => match us, hl with | [_, _, _], _ => rfl,
    F7,
    He.glo_ok X G (c.fact 7 (f := .glo "is_row") rfl),
    F7.bindsN fun _ _ _ _ _ _ us hl => match us, hl with | [_, _, _], _ => rfl,
    F8,
    He.glo_ok X G (c.fact 8 (f := .glo "is_machine") rfl),
    F8.bindsN fun _ _ _ _ _ _ us hl => match us, hl with | [_], _ => rfl,
    F9,
    He.glo_ok X G (c.fact 9 (f := .glo "check_machine") rfl),
    F9.bindsN fun _ _ _ _ _ _ us hl => match us, hl with | [_], _ => rfl,
    F10,
    He.glo_ok X G (c.fact 10 (f := .glo "check_machines") rfl),
    F10.bindsN fun _ _ _ _ _ _ us hl => match us, hl with | [_, _], _ => rfl,
    F11,
    He.glo_ok X G (c.fact 11 (f := .glo "recoloured") rfl),
    F11.bindsN fun _ _ _ _ _ _ us hl => match us, hl with | [_, _], _ => rfl,
    F12,
    He.glo_ok X G (c.fact 12 (f := .glo "alike") rfl),
    F12.bindsN fun _ _ _ _ _ _ us hl => match us, hl with | [_, _], _ => rfl,
    F13,
    He.glo_ok X G (c.fact 13 (f := .glo "_law_turned") rfl),
    F13.bindsN fun _ _ _ _ _ _ us hl => match us, hl with | [_, _], _ => rfl,
    F14,
    He.glo_ok X G (c.fact 14 (f := .glo "_law_row_holds") rfl),
    F14.bindsN fun _ _ _ _ _ _ us hl => match us, hl with | [_, _, _, _, _], _ => rfl,
    F15,
    He.glo_ok X G (c.fact 15 (f := .glo "_law_alike") rfl),
    F15.bindsN fun _ _ _ _ _ _ us hl => match us, hl with | [_, _], _ => rfl,
    F16,
    He.glo_ok X G (c.fact 16 (f := .glo "_law_ring") rfl),
    F16.bindsN fun _ _ _ _ _ _ us hl => match us, hl with | [_], _ => rfl,
    F17,
    He.glo_ok X G (c.fact 17 (f := .glo "_law_rings") rfl),
    F17.bindsN fun _ _ _ _ _ _ us hl => match us, hl with | [_], _ => rfl,
    F18,
    He.glo_ok X G (c.fact 18 (f := .glo "law") rfl),
    F18.bindsN fun _ _ _ _ _ _ us hl => match us, hl with | [_], _ => rfl,
    e_MOST_LETTERS,
    ⟨.int 5, ⟨_, rfl⟩, fun _ _ => rfl⟩,
    e_MOST_ROWS,
    ⟨.int 400, ⟨_, rfl⟩, fun _ _ => rfl⟩,
    e_MOST_EDGES,
    ⟨.int 6000, ⟨_, rfl⟩, fun _ _ => rfl⟩,
    He.free_ok X G (c.fact 19 (f := .free "int") rfl),
    He.free_ok X G (c.fact 20 (f := .free "abs") rfl),
    He.free_ok X G (c.fact 21 (f := .free "len") rfl),
    He.free_ok X G (c.fact 22 (f := .free "range") rfl),
    He.free_ok X G (c.fact 23 (f := .free "sorted") rfl),
    He.free_ok X G (c.fact 24 (f := .free "tuple") rfl),
    He.free_ok X G (c.fact 25 (f := .free "list") rfl),
    He.free_ok X G (c.fact 26 (f := .free "isinstance") rfl),
    He.free_ok X G (c.fact 27 (f := .free "bool") rfl),
    He.free_ok X G (c.fact 28 (f := .free "sum") rfl),
    He.free_ok X G (c.fact 29 (f := .free "max") rfl),
    He.free_ok X G (c.fact 30 (f := .free "set") rfl),
    He.free_ok X G (c.fact 31 (f := .free "repr") rfl),
    He.glo_ok X G (c.fact 35 (f := .glo "BadMachine") rfl),
    He.exc_ok (c.fact 36 (f := .exc "BadMachine") rfl),
    He.glo_ok X G (c.fact 37 (f := .glo "BadLetters") rfl),
    He.exc_ok (c.fact 38 (f := .exc "BadLetters") rfl),
    FunD.bindsA (ps := ["_law_script"]) F18 fun _ _ _ _ _ _ us hl => match us, hl with | [_], _ => rfl⟩⟩
end G
open PySem PySem.W PySem.Calls PyProof.Rows
theorem G.law_end (hlaw : ∀ ns : List Int, ns.length ≤ 63 → ∃ ds, G.f_law [.lst (ns.map .int)] = .ok (.bl true) ds) : PySem.Challenge.rw_spandrel_k06_machines_that_are_alike.Holds := by
  w_on; o_law
  refine HandSHeadRun.head_any (r := OpenLaw.row PySem.Challenge.rw_spandrel_k06_machines_that_are_alike) (q := view (OpenLaw.row PySem.Challenge.rw_spandrel_k06_machines_that_are_alike).prog [35]) (H := G.hk) (ob := G.ob) (M := 2360) (loose := G.loose) (d := HandSHeadRun.topDef (OpenLaw.row PySem.Challenge.rw_spandrel_k06_machines_that_are_alike).prog 35) (kwd := []) G.ob_eq
    (by kernel_rfl) (fun s => by kernel_rfl) G.run (by kernel_rfl) (by kernel_rfl) (by kernel_rfl) (by rfl) (by first | assumption | decide +kernel) (by decide +kernel) ⟨rfl, rfl, rfl, rfl, rfl, by decide +kernel⟩ ?hw ?hc
  case hw => w_witness2
  case hc =>
    refine Lk.walk_ofG (l := PySem.Challenge.rw_spandrel_k06_machines_that_are_alike) (n := 63) (k := 9) (x := "_law_script") (CX := L2.CX0) rfl (by decide) (by kernel_rfl) ⟨⟨rfl, by decide, by decide⟩, rfl⟩ ?F (fun _ _ _ _ z => z)
    intro w mg fa h Y GG hmg0
    obtain ⟨K, KX, c, cx⟩ := Y
    have hmg : mg ("law" : PySem.Str) = some (.ref fa) := by
      have e : (HandSHeadRun.topDef (OpenLaw.row PySem.Challenge.rw_spandrel_k06_machines_that_are_alike).prog 35).name = ("law" : PySem.Str) := by kernel_rfl
      rw [← e]
      exact hmg0
    obtain ⟨T⟩ := G.facts KX GG c cx
    have ea : T.a_law = fa := by
      have q := T.g_law.symm.trans hmg
      cases q
      rfl
    refine ⟨K, T.d_law, fun vs H Q _ => Lk.spF K [.dat] .dat (Lk.clA K) G.f_law vs H Q L2.E0, KX, fun s u => T.bA s [u] rfl, fun H a ns hl hO hS => ?_, fun base _ _ => ?_⟩
    · obtain ⟨ds, e⟩ := hlaw ns hl
      exact Lk.sp_law hO hS e
    · rw [← ea]
      exact Lk.FnG.calm (G.ok_law T)


end
section
namespace G
open Cr
/-! ### the box of draws -/
def box (a b c : Int) (cs : List Int) : D := .lst [.int a, .int b, .int c, .lst (cs.map D.int)]
structure Box (d : D) : Prop where
  ex : ∃ a b c cs, d = box a b c cs ∧ 0 ≤ c
theorem box_ok (ns : List Int) (h : ns.length ≤ 63) : ∃ d, f__law_box [.lst (ns.map .int)] = .ok d [.lst (ns.map .int)] ∧ Box d := by
  refine ⟨box 0 0 0 (ns.map fun n => if n < 0 then -n else n), ?_, ⟨0, 0, 0, _, rfl, by decide⟩⟩
  have hc := lc1 (i := 1) (it := itE (rd 0)) (c := pu true) (x := callB bAbs [(.d (callB bInt [(.d (rd 1))]))]) (e := [some (.lst (ns.map .int)), none]) (ds := ns.map .int) (fun _ => true) (fun d => match d with | .int n => .int (if n < 0 then -n else n) | d => d)
    (by simp) (by simp) (by simp; omega) (by
      intro d hd
      obtain ⟨n, _, rfl⟩ := List.mem_map.mp hd
      exact ⟨rfl, fun _ => by simp⟩)
  have hf : (ns.map D.int).filter (fun _ => true) = ns.map D.int := List.filter_eq_self.mpr (by simp)
  rw [hf] at hc
  simp only [f__law_box, fnOf, s_retS, s_lstE, s_seq0, s_seq1, s_bd, s_cst, s_pu, List.map_cons, List.map_nil, List.length_cons, List.length_nil, List.replicate, List.cons_append, List.nil_append, Nat.reduceAdd, Nat.reduceSub, hc, finM]
  simp [box, List.map_map, Function.comp_def]
theorem take_ok (d : D) (m : Int) (hb : Box d) (h1 : 0 < m) (h2 : m < 1073741824) : ∃ r d', f__law_take [d, .int m] = .ok (.int r) [d', .int m] ∧ Box d' ∧ 0 ≤ r ∧ r < m := by
  obtain ⟨a, b, c, cs, rfl, hc⟩ := hb.ex
  have mm : ∀ x : Int, 0 ≤ x % m ∧ x % m < m := fun x => ⟨Int.emod_nonneg _ (by omega), Int.emod_lt_of_pos _ h1⟩
  have hm : m ≠ 0 := by omega
  have bx : ∀ a b c : Int, 0 ≤ c → Box (.lst [.int a, .int b, .int c, .lst (cs.map D.int)]) := fun a b c h => ⟨a, b, c, cs, rfl, h⟩
  by_cases hb0 : b = 0
  · subst hb0
    by_cases hlt : c < (cs.length : Int)
    · obtain ⟨z, hz⟩ : ∃ z, cs[c.toNat]? = some z := ⟨_, List.getElem?_eq_getElem (by omega)⟩
      by_cases hbig : (1000000000000000000 : Int) ≤ z
      · by_cases ha : 0 < z / m
        · simp [f__law_take, fnOf, box, finM, hlt, hz, hbig, ha, at_int _ hc, h1, h2]
          exact ⟨_, _, ⟨rfl, rfl⟩, bx _ _ _ (by omega), mm _⟩
        · simp [f__law_take, fnOf, box, finM, hlt, hz, hbig, ha, at_int _ hc, h1, h2]
          exact ⟨_, _, ⟨rfl, rfl⟩, bx _ _ _ (by omega), mm _⟩
      · simp [f__law_take, fnOf, box, finM, hlt, hz, hbig, at_int _ hc, h1, h2]
        exact ⟨_, _, ⟨rfl, rfl⟩, bx _ _ _ (by omega), mm _⟩
    · simp [f__law_take, fnOf, box, finM, hlt, h1, h2]
      exact ⟨_, _, ⟨rfl, rfl⟩, bx _ _ _ (by omega), by omega, h1⟩
  · by_cases hb : 0 < b
    · by_cases ha : 0 < a / m
      · simp [f__law_take, fnOf, box, finM, hb0, hb, ha, h1, h2]
        exact ⟨_, _, ⟨rfl, rfl⟩, bx _ _ _ hc, mm _⟩
      · simp [f__law_take, fnOf, box, finM, hb0, hb, ha, h1, h2]
        exact ⟨_, _, ⟨rfl, rfl⟩, bx _ _ _ hc, mm _⟩
    · simp [f__law_take, fnOf, box, finM, hb0, hb, h1, h2]
      exact ⟨_, _, ⟨rfl, rfl⟩, bx _ _ _ hc, mm _⟩

/-! ### what a demand is: the defs -/
theorem whole_ok {d : D} (h : nds d = true) : f_is_whole [d] = .ok (.bl (isI d)) [d] := by
  cases d <;> simp [f_is_whole, fnOf, finM, isI] at h ⊢ <;> simp [nds] at h
theorem within_ok {d : D} (h : nds d = true) (lo hi : Int) : f_is_within [d, .int lo, .int hi] = .ok (.bl (wi d lo hi)) [d, .int lo, .int hi] := by
  have hw := whole_ok h
  cases d with
  | int i =>
    by_cases h1 : lo ≤ i
    · simp [f_is_within, fnOf, finM, hw, isI, wi, h1]
    · simp [f_is_within, fnOf, finM, hw, isI, wi, h1]
  | _ => simp [f_is_within, fnOf, finM, hw, isI, wi]

/-! ### what a machine is: the defs -/
theorem row_ok {r : D} (h : nds r = true) (n many : Int) : f_is_row [r, .int n, .int many] = .ok (.bl (isRowD r n many)) [r, .int n, .int many] := by
  refine fn_val rfl rfl (by simp) ?_
  cases r with
  | tup es =>
    simp only [nds] at h
    refine seq_if_f (by simp; rfl) ?_
    refine seq_step (by simp; rfl) ?_
    refine seq_ret (for_fold (fun (bf : Int × Int) e' => ∃ z, e' = [some (.tup es), some (.int n), some (.int many), some (.tup [.int bf.1, .int bf.2]), z]) (fun e' => e'.length = 5) (edge1 n many) (-1, -1) (ds := es) (e1 := [some (.tup es), some (.int n), some (.int many), some (.tup [.int (-1), .int (-1)]), none]) (by simp) ⟨_, rfl⟩ ?_ ?_ ?_)
    · rintro ⟨b0, b1⟩ d e' hd ⟨z, rfl⟩
      refine ⟨_, by simp; rfl, ?_⟩
      have hnd := nds_mem h hd
      by_cases h2 : ∃ x y, d = .tup [x, y]
      case neg =>
        have e0 : edge1 n many (b0, b1) d = .inr (.bl false) := by
          unfold edge1
          split
          · exact absurd ⟨_, _, rfl⟩ h2
          · rfl
        cases d with
        | tup xs =>
          have hl : ((xs.length : Int) == 2) = false := by
            match xs, h2 with
            | [], _ => rfl
            | [x], _ => rfl
            | [x, y], h2 => exact absurd ⟨x, y, rfl⟩ h2
            | x :: y :: w :: r, _ => simp; omega
          exact ⟨_, _, by simp [hl]; exact ⟨rfl, rfl⟩, by simp [e0]⟩
        | dct _ => simp [nds] at hnd
        | dht _ => simp [nds] at hnd
        | own _ => simp [nds] at hnd
        | ins _ _ => simp [nds] at hnd
        | _ => exact ⟨_, _, by simp; exact ⟨rfl, rfl⟩, by simp [e0]⟩
      obtain ⟨x, y, rfl⟩ := h2
      simp only [nds, ndsL, Bool.and_eq_true] at hnd
      have hw1 := within_ok hnd.1 0 (n - 1)
      have hw2 := within_ok hnd.2.1 0 (many - 1)
      refine seq_if_f (by simp; rfl) ?_
      cases hx : wi x 0 (n - 1) with
      | false =>
        rw [hx] at hw1
        have e0 : edge1 n many (b0, b1) (.tup [x, y]) = .inr (.bl false) := by
          cases x <;> try rfl
          cases y <;> try rfl
          rename_i a t
          have : ¬ (0 ≤ a ∧ a ≤ n - 1) := of_decide_eq_false hx
          simp only [edge1, decide_eq_false this, Bool.false_and, Bool.false_eq_true, if_false]
        exact ⟨_, _, by simp [hw1]; exact ⟨rfl, rfl⟩, by simp [e0]⟩
      | true =>
        rw [hx] at hw1
        cases hy : wi y 0 (many - 1) with
        | false =>
          rw [hy] at hw2
          have e0 : edge1 n many (b0, b1) (.tup [x, y]) = .inr (.bl false) := by
            cases x <;> try rfl
            cases y <;> try rfl
            rename_i a t
            have : ¬ (0 ≤ t ∧ t ≤ many - 1) := of_decide_eq_false hy
            show (if (decide (0 ≤ a ∧ a ≤ n - 1) && (decide (0 ≤ t ∧ t ≤ many - 1) && prLt (b0, b1) (a, t))) = true then _ else _) = _
            rw [decide_eq_false this]
            simp
          exact ⟨_, _, by simp [hw1, hw2]; exact ⟨rfl, rfl⟩, by simp [e0]⟩
        | true =>
          rw [hy] at hw2
          obtain ⟨a, rfl⟩ : ∃ i, x = .int i := by cases x <;> simp [wi] at hx ⊢
          obtain ⟨t, rfl⟩ : ∃ i, y = .int i := by cases y <;> simp [wi] at hy ⊢
          have ha : (0 ≤ a ∧ a ≤ n - 1) := of_decide_eq_true hx
          have ht : (0 ≤ t ∧ t ≤ many - 1) := of_decide_eq_true hy
          refine seq_if_f (by simp [hw1, hw2]; rfl) ?_
          have hle : gLeT (.tup [.int a, .int t]) (.tup [.int b0, .int b1]) = some (.bl (!prLt (b0, b1) (a, t))) := by
            rw [← lexLe_two]; rfl
          cases hp : prLt (b0, b1) (a, t) with
          | false =>
            rw [hp] at hle
            exact ⟨_, _, by simp [hle]; exact ⟨rfl, rfl⟩, by simp [edge1, hp]⟩
          | true =>
            rw [hp] at hle
            refine wp_i (a := .nx) (e := [some (.tup es), some (.int n), some (.int many), some (.tup [.int a, .int t]), some (.tup [.int a, .int t])]) (by simp [hle]) ?_
            simp [edge1, hp, ha, ht]
    · rintro s hs e' ⟨z, rfl⟩
      have : isRowD (.tup es) n many = true := by unfold isRowD; simp only [hs]
      exact .inl ⟨rfl, _, _, by simp; exact ⟨rfl, rfl⟩, by simp [this]⟩
    · intro r hr e' hl'
      have h1 := edge_ff n many es (-1, -1) r hr
      have : isRowD (.tup es) n many = false := by unfold isRowD; simp only [hr]
      exact .inr ⟨_, rfl, by rw [h1, this], hl'⟩
  | dct _ => simp [nds] at h
  | dht _ => simp [nds] at h
  | own _ => simp [nds] at h
  | ins _ _ => simp [nds] at h
  | _ => exact ⟨_, _, by simp; exact ⟨rfl, rfl⟩, by simp [isRowD]⟩
theorem row_len {r : D} {n many : Int} (h : isRowD r n many = true) : bLen [r] = some (.int (rowLen r)) := by
  cases r <;> simp [isRowD] at h ⊢
  rfl
theorem machine_ok {m : D} (h : nds m = true) : f_is_machine [m] = .ok (.bl (isMachD m)) [m] := by
  refine fn_val rfl rfl (by simp) ?_
  cases m with
  | tup xs =>
    match xs, h with
    | [], h => exact ⟨_, _, by simp; exact ⟨rfl, rfl⟩, by simp [isMachD]⟩
    | [x], h => exact ⟨_, _, by simp; exact ⟨rfl, rfl⟩, by simp [isMachD]⟩
    | x :: y :: z :: r, h =>
      have e : ((r.length : Int) + 1 + 1 + 1 == 2) = false := by simp; omega
      exact ⟨_, _, by simp [e]; exact ⟨rfl, rfl⟩, by simp [isMachD]⟩
    | [x, y], h =>
      simp only [nds, ndsL, Bool.and_eq_true] at h
      have hw := within_ok h.1 0 5
      cases hx : wi x 0 5 with
      | false =>
        have e0 : isMachD (.tup [x, y]) = false := by
          cases x <;> try rfl
          rename_i i
          cases y <;> try rfl
          have : ¬ (0 ≤ i ∧ i ≤ 5) := of_decide_eq_false hx
          simp only [isMachD, decide_eq_false this, Bool.false_and]
        rw [hx] at hw
        exact ⟨_, _, by simp [hw, c_MOST_LETTERS]; exact ⟨rfl, rfl⟩, by simp [e0]⟩
      | true =>
        rw [hx] at hw
        obtain ⟨i, rfl⟩ : ∃ i, x = .int i := by cases x <;> simp [wi] at hx ⊢
        have hi : 0 ≤ i ∧ i ≤ 5 := of_decide_eq_true hx
        refine seq_if_f (by simp [hw, c_MOST_LETTERS]; rfl) ?_
        refine seq_step (by simp; rfl) ?_
        by_cases hy : ∃ ss, y = .tup ss
        case neg =>
          have e0 : isMachD (.tup [.int i, y]) = false := by cases y <;> simp_all [isMachD]
          have e1 : gIsi .tuple y = some (.bl false) := by cases y <;> simp_all [nds]
          exact ⟨_, _, by simp [e1]; exact ⟨rfl, rfl⟩, by simp [e0]⟩
        obtain ⟨rs, rfl⟩ := hy
        simp only [nds] at h
        have e0 : isMachD (.tup [.int i, .tup rs]) = (decide (1 ≤ rs.length ∧ rs.length ≤ 400) && (rs.all (fun r => isRowD r i rs.length) && decide ((rs.map rowLen).sum ≤ 6000))) := by
          simp only [isMachD, decide_eq_true hi, Bool.true_and]
        rw [e0]
        by_cases hl : 1 ≤ rs.length ∧ rs.length ≤ 400
        case neg =>
          rw [decide_eq_false hl, Bool.false_and]
          by_cases h1 : (1 : Int) ≤ rs.length
          · have h2 : ¬ ((rs.length : Int) ≤ 400) := by omega
            exact ⟨_, _, by simp [h1, h2, c_MOST_ROWS]; exact ⟨rfl, rfl⟩, by simp⟩
          · exact ⟨_, _, by simp [h1, c_MOST_ROWS]; exact ⟨rfl, rfl⟩, by simp⟩
        rw [decide_eq_true hl, Bool.true_and]
        have h1 : (1 : Int) ≤ rs.length := by omega
        have h2 : ((rs.length : Int) ≤ 400) := by omega
        refine seq_if_f (by simp [h1, h2, c_MOST_ROWS]; rfl) ?_
        refine seq_ret (for_all (ds := rs) (fun r => isRowD r i rs.length) (by simp) (by simp) (fun d hd => ?_) (fun ha z => .inl ⟨rfl, ?_⟩) (fun ha e2 hl2 => .inr ⟨_, rfl, by rw [ha]; rfl, hl2⟩))
        · have hs := row_ok (nds_mem h.2.1 hd) i rs.length
          cases hb : isRowD d i rs.length with
          | true => rw [hb] at hs; exact ⟨_, _, by simp [hs]; exact ⟨rfl, rfl⟩, by simp⟩
          | false => rw [hb] at hs; exact ⟨_, _, by simp [hs]; exact ⟨rfl, rfl⟩, by simp⟩
        · rw [ha, Bool.true_and]
          simp only [List.set_cons_succ, List.set_cons_zero]
          have hc := lc1 (i := 2) (it := itE (rd 1)) (c := pu true) (x := callB bLen [(.d (rd 2))]) (e := [some (.tup [.int i, .tup rs]), some (.tup rs), z]) (ds := rs) (fun _ => true) (fun r => .int (rowLen r)) (by simp) (by simp) (by omega) (fun d hd => ⟨by simp, fun _ => by
            have := row_len (List.all_eq_true.mp ha d hd)
            simp [this]⟩)
          rw [List.filter_eq_self.mpr (by simp)] at hc
          have hm : rs.map (fun r => D.int (rowLen r)) = ((rs.map rowLen).map fun (k : Nat) => (k : Int)).map .int := by simp
          rw [hm] at hc
          have hsum : ∀ l : List Nat, (l.map fun (k : Nat) => (k : Int)).sum = (l.sum : Nat) := fun l => by
            induction l with
            | nil => rfl
            | cons a l ih => simp [ih]
          refine ⟨.rt (.bl (decide ((rs.map rowLen).sum ≤ 6000))), [some (.tup [.int i, .tup rs]), some (.tup rs), z], ?_, by simp⟩
          simp only [s_retS, s_bd, s_bdd, s_callB, s_opds, s_p1d, s_p10, s_p2d, s_p20, s_pu, hc, s_sum, s_os, hsum, c_MOST_EDGES, s_cst, s_gLe]
          congr 2
          congr 1
          rw [decide_eq_decide]
          omega
  | dct _ => simp [nds] at h
  | dht _ => simp [nds] at h
  | own _ => simp [nds] at h
  | ins _ _ => simp [nds] at h
  | _ => exact ⟨_, _, by simp; exact ⟨rfl, rfl⟩, by simp [isMachD]⟩
theorem mcheck_ok {d : D} (h : nds d = true) (hd : isMachD d = true) : f_check_machine [d] = .ok .non [d] := by
  have := machine_ok h
  rw [hd] at this
  exact fn_non rfl rfl (by simp) ⟨_, _, by simp [this]; exact ⟨rfl, rfl⟩, by simp⟩
theorem mcheck_no {d : D} (h : nds d = true) (hd : isMachD d = false) : f_check_machine [d] = .exn 0 := by
  have := machine_ok h
  rw [hd] at this
  exact fn_exn (e := [some d]) (by simp [this])

/-! ### a drawn demand -/
theorem pick_ok (d : D) (menu : List D) (hb : Box d) (h1 : 0 < menu.length) (h2 : menu.length < 1000000) : ∃ r d', f__law_pick [d, .lst menu] = .ok r [d', .lst menu] ∧ Box d' ∧ r ∈ menu := by
  obtain ⟨k, d', ht, B, k0, k1⟩ := take_ok d menu.length hb (by omega) (by omega)
  obtain ⟨k, rfl⟩ := Int.eq_ofNat_of_zero_le k0
  have hk : k < menu.length := by omega
  have e : atD menu (k : Int) = some menu[k] := by rw [at_nat, List.getElem?_eq_getElem hk]
  refine ⟨menu[k], d', ?_, B, List.getElem_mem hk⟩
  exact fn_ret (e := [some d', some (.lst menu)]) (ret_ok (by simp [ht, e])) rfl

/-! ### a drawn machine -/
theorem machine_draw (d : D) {n : Nat} {most : Int} (hb : Box d) (hn : n ≤ 5) (h1 : 0 < most) (h2 : most ≤ 400) : ∃ rs d', f__law_machine [d, .int n, .int most] = .ok (mcD n rs) [d', .int n, .int most] ∧ Box d' ∧ OkMc n rs ∧ rs.length ≤ most ∧ ∀ r ∈ rs, r.length ≤ 10 := by
  have hrn : (-1000000 : Int) ≤ n ∧ (n : Int) ≤ 1000000 := by omega
  obtain ⟨k, d1, ht, B1, k0, k1⟩ := take_ok d most hb (by omega) (by omega)
  obtain ⟨k, rfl⟩ := Int.eq_ofNat_of_zero_le k0
  obtain ⟨size, hsz⟩ : ∃ size : Nat, (1 : Int) + k = size := ⟨1 + k, by omega⟩
  have hs1 : 1 ≤ size := by omega
  have hs2 : size ≤ 400 := by omega
  have hrs : (-1000000 : Int) ≤ size ∧ (size : Int) ≤ 1000000 := by omega
  suffices h : ∃ dd r, f__law_machine [d, .int n, .int most] = .ok dd r ∧ ∃ rs d', dd = mcD n rs ∧ r = [d', .int n, .int most] ∧ Box d' ∧ OkMc n rs ∧ rs.length ≤ most ∧ ∀ r ∈ rs, r.length ≤ 10 by
    obtain ⟨_, _, h, rs, d', rfl, rfl, q⟩ := h
    exact ⟨rs, d', h, q⟩
  refine fn_wp ?_
  refine seq_step (by simp [ht, hsz]; rfl) ?_
  refine seq_step (by simp; rfl) ?_
  refine seq_wp (for_nx (ds := rangeD 0 size) (fun q e' => ∃ d' rs z5 z6 z7 z8 z9, Box d' ∧ rs.length = q ∧ (∀ r ∈ rs, OkRow n size r ∧ r.length ≤ 10) ∧ e' = [some d', some (.int n), some (.int most), some (.int size), some (.lst (rs.map rowD)), z5, z6, z7, z8, z9])
    (e1 := [some d1, some (.int n), some (.int most), some (.int size), some (.lst []), none, none, none, none, none]) (by simp [hrs]) ⟨d1, [], none, none, none, none, none, B1, rfl, by simp, rfl⟩ ?_ ?_)
  · rintro q dq e' hq ⟨d', rs, z5, z6, z7, z8, z9, Bd, hl, hrs2, rfl⟩
    have hql : q < size := by have := (List.getElem?_eq_some_iff.mp hq).1; simpa [rangeD] using this
    refine ⟨_, by simp; rfl, ?_⟩
    refine seq_step (by simp; rfl) ?_
    refine seq_wp (for_nx (ds := rangeD 0 n) (fun j e' => ∃ d' es z7 z8 z9, Box d' ∧ es.length ≤ 2 * j ∧ es.Nodup ∧ (∀ e ∈ es, 0 ≤ e.1 ∧ e.1 < (n : Int)) ∧ (∀ e ∈ es, 0 ≤ e.2 ∧ e.2 < (size : Int)) ∧ e' = [some d', some (.int n), some (.int most), some (.int size), some (.lst (rs.map rowD)), some dq, some (.lst (es.map prD)), z7, z8, z9])
      (e1 := [some d', some (.int n), some (.int most), some (.int size), some (.lst (rs.map rowD)), some dq, some (.lst []), z7, z8, z9]) (by simp [hrn]) ⟨d', [], z7, z8, z9, Bd, by simp, by simp, by simp, by simp, rfl⟩ ?_ ?_)
    · rintro a da e' ha ⟨d', es, z7, z8, z9, Bd, hel, hnd, hlet, hto, rfl⟩
      have hal : a < n := by have := (List.getElem?_eq_some_iff.mp ha).1; simpa [rangeD] using this
      obtain rfl : da = .int a := by
        have := (List.getElem?_eq_some_iff.mp ha).2
        simp [rangeD] at this
        exact this.symm
      refine ⟨_, by simp; rfl, ?_⟩
      obtain ⟨c, d2, hp, B2, hc⟩ := pick_ok d' [.int 0, .int 1, .int 1, .int 1, .int 2] Bd (by decide) (by decide)
      obtain ⟨c, rfl, hc2⟩ : ∃ c' : Nat, c = .int c' ∧ c' ≤ 2 := by
        simp at hc
        rcases hc with rfl | rfl | rfl
        · exact ⟨0, rfl, by decide⟩
        · exact ⟨1, rfl, by decide⟩
        · exact ⟨2, rfl, by decide⟩
      have hrc : (-1000000 : Int) ≤ c ∧ (c : Int) ≤ 1000000 := by omega
      refine for_nx (ds := rangeD 0 c) (fun j e' => ∃ d' es z8 z9, Box d' ∧ es.length ≤ 2 * a + j ∧ es.Nodup ∧ (∀ e ∈ es, 0 ≤ e.1 ∧ e.1 < (n : Int)) ∧ (∀ e ∈ es, 0 ≤ e.2 ∧ e.2 < (size : Int)) ∧ e' = [some d', some (.int n), some (.int most), some (.int size), some (.lst (rs.map rowD)), some dq, some (.lst (es.map prD)), some (.int a), z8, z9])
        (e1 := [some d2, some (.int n), some (.int most), some (.int size), some (.lst (rs.map rowD)), some dq, some (.lst (es.map prD)), some (.int a), z8, z9]) (by simp [hp, hrc]) ⟨d2, es, z8, z9, B2, by omega, hnd, hlet, hto, rfl⟩ ?_ ?_
      · rintro j dj e' hj ⟨d', es, z8, z9, Bd, hel, hnd, hlet, hto, rfl⟩
        have hjl : j < c := by have := (List.getElem?_eq_some_iff.mp hj).1; simpa [rangeD] using this
        refine ⟨_, by simp; rfl, ?_⟩
        obtain ⟨t, d3, ht3, B3, t0, t1⟩ := take_ok d' size Bd (by omega) (by omega)
        have hni : gNi (.tup [.int a, .int t]) (.lst (es.map prD)) = some (.bl (!decide (((a : Int), t) ∈ es))) := gNi_prs ((a : Int), t) es
        refine seq_step (by simp [ht3]; rfl) ?_
        by_cases hm : ((a : Int), t) ∈ es
        · refine ⟨.nx, _, by simp [hni, hm]; rfl, rfl, d3, es, some dj, some (.int t), B3, by omega, hnd, hlet, hto, by simp [prD]⟩
        · refine ⟨.nx, _, by simp [hni, hm, LIM, show es.length < 1000000 by omega]; rfl, rfl, d3, es ++ [((a : Int), t)], some dj, some (.int t), B3, by simp; omega, ?_, ?_, ?_, by simp [prD]⟩
          · rw [List.nodup_append]
            exact ⟨hnd, by simp, by rintro x hx y hy rfl; simp at hy; exact hm (hy ▸ hx)⟩
          · intro e he
            rcases List.mem_append.mp he with h | h
            · exact hlet e h
            · rw [List.mem_singleton.mp h]; simp only; omega
          · intro e he
            rcases List.mem_append.mp he with h | h
            · exact hto e h
            · rw [List.mem_singleton.mp h]; exact ⟨t0, t1⟩
      · rintro e' ⟨d', es, z8, z9, Bd, hel, hnd, hlet, hto, rfl⟩
        have : (rangeD 0 c).length = c := by simp [rangeD]
        exact ⟨rfl, d', es, some (.int a), z8, z9, Bd, by omega, hnd, hlet, hto, rfl⟩
    · rintro e' ⟨d', es, z7, z8, z9, Bd, hel, hnd, hlet, hto, rfl⟩
      have hel : es.length ≤ 10 := by simp [rangeD] at hel; omega
      have hp : OkRow n size (psort es) := ⟨fun e he => hlet e ((psort_mem es e).mp he), fun e he => hto e ((psort_mem es e).mp he), psort_lt hnd⟩
      refine ⟨rfl, ?_⟩
      refine ⟨_, _, by simp [bSortP, prsD_map, LIM, show rs.length < 1000000 by omega]; rfl, rfl, d', rs ++ [psort es], some dq, some (.lst (es.map prD)), z7, z8, z9, Bd, by simp [hl], ?_, by simp [rowD]⟩
      intro r hr
      rcases List.mem_append.mp hr with h | h
      · exact hrs2 r h
      · rw [List.mem_singleton.mp h]; exact ⟨hp, by rw [(psort_perm es).length_eq]; exact hel⟩
  · rintro e' ⟨d', rs, z5, z6, z7, z8, z9, Bd, hl, hrs2, rfl⟩
    have hl : rs.length = size := by simpa [rangeD] using hl
    refine ⟨rfl, ?_⟩
    have hfew : (rs.map List.length).sum ≤ 10 * rs.length := by
      have : ∀ l : List (List (Int × Int)), (∀ r ∈ l, r.length ≤ 10) → (l.map List.length).sum ≤ 10 * l.length := fun l h => by
        induction l with
        | nil => simp
        | cons r l ih =>
          have := ih (fun x hx => h x (List.mem_cons_of_mem _ hx))
          have := h r List.mem_cons_self
          simp only [List.map_cons, List.sum_cons, List.length_cons]
          omega
      exact this rs fun r hr => (hrs2 r hr).2
    refine ⟨_, _, by simp; exact ⟨rfl, rfl⟩, _, _, rfl, rfl, rs, d', rfl, rfl, Bd, ⟨hn, by omega, by omega, by omega, fun p hp => by rw [hl]; exact (hrs2 p hp).1⟩, by omega, fun r hr => (hrs2 r hr).2⟩

/-! ### rows, both machines checked -/
theorem row_data {n : Nat} {A : Rows} {q : Int} (h : 0 ≤ q ∧ q < A.length) : gIx (mcD n A) (.int 1) = some (.tup (A.map rowD)) ∧ atD (A.map rowD) q = some (rowD (rowAt A q)) := by
  obtain ⟨q, rfl⟩ := Int.eq_ofNat_of_zero_le h.1
  have hq : q < A.length := by omega
  refine ⟨rfl, ?_⟩
  rw [at_nat, List.getElem?_map, List.getElem?_eq_getElem hq]
  unfold rowAt
  rw [Int.toNat_natCast, List.getD_eq_getElem?_getD, List.getElem?_eq_getElem hq]
  rfl
theorem gEq_int (i j : Int) : gEq (.int i) (.int j) = some (.bl (decide (i = j))) := by
  unfold gEq
  rw [if_pos ⟨sh_int _ _, sh_int _ _⟩, eqv_int]
theorem bothm_ok {n : Nat} {A B : Rows} (oa : OkMc n A) (ob : OkMc n B) : f_check_machines [mcD n A, mcD n B] = .ok .non [mcD n A, mcD n B] := by
  have c1 := mcheck_ok (nds_mc n A) (isMach_of oa)
  have c2 := mcheck_ok (nds_mc n B) (isMach_of ob)
  have g1 : gIx (mcD n A) (.int 0) = some (.int n) := rfl
  have g2 : gIx (mcD n B) (.int 0) = some (.int n) := rfl
  have h : gNe (.int n) (.int n) = some (.bl false) := gNe_self rfl (sh_int _ _)
  exact fn_non rfl rfl (by simp) (seq_step (by simp [c1]; rfl) (seq_step (by simp [c2]; rfl) ⟨.nx, _, by simp [g1, g2, h]; rfl, rfl, by simp⟩))

/-! ### new colours -/
@[simp] theorem s_lenH (ks : Ents) : bLenH [.dht ks] = some (.int ks.length) := (rfl)
theorem looks_ok {c : List Int} {r : List Pr} {s0 s2 s3 s4 s5 : Option D} (hr : r.length ≤ 100000) (hc : ∀ e ∈ r, 0 ≤ e.2 ∧ e.2 < c.length) :
    dcHE [7, 8] (itE (rd 6)) (tgT [(tgN 7), (tgN 8)]) (pu true) (tupE [(rd 7), (bin gIx (.d (rd 1)) (.d (rd 8)))]) (cst (.bl true)) [s0, some (.lst (c.map .int)), s2, s3, s4, s5, some (rowD r), none, none] = .ok (.dht (entP ((lkS c r).foldl addX []))) [s0, some (.lst (c.map .int)), s2, s3, s4, s5, some (rowD r), none, none] := by
  have key : ∀ (l : List Pr) (acc : List Pr) (e' : Sl), (∀ e ∈ l, 0 ≤ e.2 ∧ e.2 < c.length) → acc.length + l.length ≤ 100000 → wipeE e' [7, 8] = [s0, some (.lst (c.map .int)), s2, s3, s4, s5, some (rowD r), none, none] →
      ∃ e2, compG [7, 8] (tgT [(tgN 7), (tgN 8)]) (pu true) (emH (tupE [(rd 7), (bin gIx (.d (rd 1)) (.d (rd 8)))]) (cst (.bl true))) (l.map prD) (entP acc) e' = .ok (entP ((l.map fun e => (e.1, colAt c e.2)).foldl addX acc)) e2 ∧ wipeE e2 [7, 8] = [s0, some (.lst (c.map .int)), s2, s3, s4, s5, some (rowD r), none, none] := by
    intro l
    induction l with
    | nil => intro acc e' _ _ hw; exact ⟨e', by simp [compG], hw⟩
    | cons p l ih =>
      intro acc e' hb hlen hw
      have hw0 : ∀ f : Unit → M Ents, bd (fun e => Out.ok () (wipeE e [7, 8])) f e' = f () (wipeE e' [7, 8]) := fun f => rfl
      obtain ⟨h0, h1⟩ := hb p List.mem_cons_self
      have hat : atD (c.map D.int) p.2 = some (.int (colAt c p.2)) := by
        obtain ⟨t, ht⟩ := Int.eq_ofNat_of_zero_le h0
        rw [ht, at_nat, List.getElem?_map, List.getElem?_eq_getElem (by omega)]
        unfold colAt
        rw [Int.toNat_natCast, List.getD_eq_getElem?_getD, List.getElem?_eq_getElem (by omega)]
        rfl
      have hlen' : (addX acc (p.1, colAt c p.2)).length ≤ acc.length + 1 := by unfold addX; split <;> simp
      simp only [List.length_cons] at hlen
      obtain ⟨e2, q1, q2⟩ := ih (addX acc (p.1, colAt c p.2)) [s0, some (.lst (c.map .int)), s2, s3, s4, s5, some (rowD r), some (.int p.1), some (.int p.2)] (fun e he => hb e (List.mem_cons_of_mem _ he)) (by omega) rfl
      refine ⟨e2, ?_, q2⟩
      rw [List.map_cons]
      unfold compG
      have hs : stT ((tgT [(tgN 7), (tgN 8)]) (prD p)) () [s0, some (.lst (c.map .int)), s2, s3, s4, s5, some (rowD r), none, none] = .ok () [s0, some (.lst (c.map .int)), s2, s3, s4, s5, some (rowD r), some (.int p.1), some (.int p.2)] := by simp [tgT, tgs, prD]
      rw [hw0, hw, bd_ok hs, bd_ok (a := true) (e1 := [s0, some (.lst (c.map .int)), s2, s3, s4, s5, some (rowD r), some (.int p.1), some (.int p.2)]) (by simp), if_pos rfl, bd_ok (a := entP (addX acc (p.1, colAt c p.2))) (e1 := [s0, some (.lst (c.map .int)), s2, s3, s4, s5, some (rowD r), some (.int p.1), some (.int p.2)])]
      · rw [q1]; rfl
      · have hput := put_entX acc (p.1, colAt c p.2)
        have hky := kyT_prD (p.1, colAt c p.2)
        have hpd : (D.tup [.int p.1, .int (colAt c p.2)]) = prD (p.1, colAt c p.2) := rfl
        have hk : tupE [(rd 7), (bin gIx (.d (rd 1)) (.d (rd 8)))] [s0, some (.lst (c.map .int)), s2, s3, s4, s5, some (rowD r), some (.int p.1), some (.int p.2)] = .ok (prD (p.1, colAt c p.2)) [s0, some (.lst (c.map .int)), s2, s3, s4, s5, some (rowD r), some (.int p.1), some (.int p.2)] := by simp [hat, hpd]
        unfold emH
        rw [bd_ok hk]
        simp only [s_bd, s_cst]
        rw [if_pos ⟨hky, by rw [len_entP]; show _ < 1000000; omega⟩, hput]
        rfl
  obtain ⟨e2, q1, q2⟩ := key r [] [s0, some (.lst (c.map .int)), s2, s3, s4, s5, some (rowD r), none, none] hc (by simpa using hr) rfl
  unfold dcHE
  have hit : itE (rd 6) [s0, some (.lst (c.map .int)), s2, s3, s4, s5, some (rowD r), none, none] = .ok (r.map prD) [s0, some (.lst (c.map .int)), s2, s3, s4, s5, some (rowD r), none, none] := by simp [rowD]
  exact coE_ok (out := D.dht) hit (show compG [7, 8] (tgT [(tgN 7), (tgN 8)]) (pu true) (emH (tupE [(rd 7), (bin gIx (.d (rd 1)) (.d (rd 8)))]) (cst (.bl true))) (r.map prD) ([] : Ents) _ = .ok (entP ((lkS c r).foldl addX [])) e2 from q1) q2
def gRow (c : List Int) (d : D) : D := match d with
  | .tup xs => (match prsD xs with
    | some r => rowD (lk c r)
    | none => .non)
  | _ => .non
theorem gRow_row (c : List Int) (r : List Pr) : gRow c (rowD r) = rowD (lk c r) := by
  show (match prsD (r.map prD) with
    | some r => rowD (lk c r)
    | none => .non) = _
  rw [prsD_map]
theorem recol_ok {U : Rows} {c : List Int} (hU : U.length ≤ 1000) (hr : ∀ r ∈ U, r.length ≤ 100000) (hc : ∀ r ∈ U, ∀ e ∈ r, 0 ≤ e.2 ∧ e.2 < c.length) : f_recoloured [.lst (U.map rowD), .lst (c.map .int)] = .ok (.lst ((recol U c).map .int)) [.lst (U.map rowD), .lst (c.map .int)] := by
  have hlc := lcP (vs := [6]) (it := itE (rd 0)) (t := tgN 6) (c := pu true) (x := (callB bTuple [(.d (callB bSortN [(.d (callB bKeysH [(.d (dcHE [7, 8] (itE (rd 6)) (tgT [(tgN 7), (tgN 8)]) (pu true) (tupE [(rd 7), (bin gIx (.d (rd 1)) (.d (rd 8)))]) (cst (.bl true))))]))]))]))
    (e := [some (.lst (U.map rowD)), some (.lst (c.map .int)), none, none, none, none, none, none, none]) (ds := U.map rowD) (fun _ => true) (gRow c) (by simp) (by simp; omega) (by
      intro d hd
      obtain ⟨r, hrU, rfl⟩ := List.mem_map.mp hd
      refine ⟨[some (.lst (U.map rowD)), some (.lst (c.map .int)), none, none, none, none, some (rowD r), none, none], by simp [wipeE], by simp [wipeE], by simp, fun _ => ?_⟩
      have h1 := looks_ok (s0 := some (.lst (U.map rowD))) (s2 := none) (s3 := none) (s4 := none) (s5 := none) (hr r hrU) (hc r hrU)
      have hkl : ((lkS c r).foldl addX []).length ≤ 100000 := by
        have := nd_subX (dl_nd (lkS c r)) (m := lkS c r) fun x hx => mem_dl.mp hx
        have h2 := hr r hrU
        simp only [lkS, List.length_map] at this ⊢
        omega
      have hkeys : bKeysH [.dht (entP ((lkS c r).foldl addX []))] = some (.lst (((lkS c r).foldl addX []).map prD)) := by
        rw [s_bKeysH]
        unfold entP
        rw [List.map_map]
        rfl
      have hsort := bSortN_pr (L := (lkS c r).foldl addX []) (by omega)
      rw [gRow_row]
      have hlk : D.tup ((psort ((lkS c r).foldl addX [])).map prD) = rowD (lk c r) := rfl
      generalize (lkS c r).foldl addX [] = K at *
      simp [h1, hkeys, hsort, hlk])
  rw [show (U.map rowD).filter (fun _ => true) = U.map rowD from List.filter_eq_self.mpr fun _ _ => rfl, List.map_map, show U.map (gRow c ∘ rowD) = (U.map (lk c)).map rowD from by rw [List.map_map]; exact List.map_congr_left fun r _ => gRow_row c r] at hlc
  have hL : (U.map (lk c)).length ≤ 1000 := by rw [List.length_map]; exact hU
  have hfin : ((recol U c).map D.int) = (U.map (lk c)).map fun l => D.int (ixX ((U.map (lk c)).foldl addX []) l : Int) := by unfold recol numX; rw [List.map_map]; rfl
  rw [hfin]
  generalize hLd : U.map (lk c) = L at *
  have hlcm := hlc
  generalize D.lst (U.map rowD) = RD at *
  generalize D.lst (c.map D.int) = CD at *
  have hpre : ∀ k (l : List Pr), L[k]? = some l → L.take (k + 1) = L.take k ++ [l] := fun k l h => by rw [List.take_succ, h]; rfl
  refine fn_val rfl rfl (by simp) ?_
  refine seq_step (e1 := [some RD, some CD, some (.lst (L.map rowD)), none, none, none, none, none, none]) (by simp [hlc]) ?_
  refine seq_step (e1 := [some RD, some CD, some (.lst (L.map rowD)), some (.dht []), none, none, none, none, none]) (by simp) ?_
  refine seq_step (e1 := [some RD, some CD, some (.lst (L.map rowD)), some (.dht []), some (.lst []), none, none, none, none]) (by simp) ?_
  clear hlc hlcm
  refine seq_wp (for_nx (ds := L.map rowD) (fun k e' => ∃ z5 : Option D, e' = [some RD, some CD, some (.lst (L.map rowD)), some (.dht (entK ((L.take k).foldl addX []))), some (.lst ((L.take k).map fun l => D.int (ixX ((L.take k).foldl addX []) l : Int))), z5, none, none, none])
    (e1 := [some RD, some CD, some (.lst (L.map rowD)), some (.dht []), some (.lst []), none, none, none, none]) (by simp) ⟨none, by simp [entK]⟩ ?_ ?_)
  · rintro k dk e' hk ⟨z5, rfl⟩
    rw [List.getElem?_map] at hk
    obtain ⟨l, hl, rfl⟩ := Option.map_eq_some_iff.mp hk
    have htk := hpre k l hl
    have hkl := (List.getElem?_eq_some_iff.mp hl).1
    have hfl : ((L.take k).foldl addX []).length ≤ 1000 := by
      have := nd_subX (dl_nd (L.take k)) (m := L) fun x hx => List.mem_of_mem_take (mem_dl.mp hx)
      omega
    have hsome := some_entK ((L.take k).foldl addX []) l
    have hky := kyT_row l
    have hmm : ∀ x ∈ L.take k, x ∈ (L.take k).foldl addX [] := fun x hx => mem_dl.mpr hx
    have hltk : (L.take k).length ≤ 1000 := by rw [List.length_take]; omega
    rw [htk, List.foldl_append, List.map_append]
    show ∃ e'', _ ∧ _
    refine ⟨[some RD, some CD, some (.lst (L.map rowD)), some (.dht (entK ((L.take k).foldl addX []))), some (.lst ((L.take k).map fun l => D.int (ixX ((L.take k).foldl addX []) l : Int))), some (rowD l), none, none, none], by simp, ?_⟩
    generalize (L.take k).foldl addX [] = f at *
    by_cases hin : l ∈ f
    · have hZ0 : ((L.take k).map fun l => D.int (ixX f l : Int)).length < 1000000 := by rw [List.length_map]; omega
      have hget := get_entK hin
      have ea : addX f l = f := by unfold addX; rw [if_pos hin]
      refine seq_step (e1 := [some RD, some CD, some (.lst (L.map rowD)), some (.dht (entK f)), some (.lst ((L.take k).map fun l => D.int (ixX f l : Int))), some (rowD l), none, none, none]) (by simp [hky, hsome, hin]) ?_
      refine ⟨.nx, [some RD, some CD, some (.lst (L.map rowD)), some (.dht (entK f)), some (.lst (((L.take k).map fun l => D.int (ixX f l : Int)) ++ [.int (ixX f l : Int)])), some (rowD l), none, none, none], ?_, rfl, some (rowD l), ?_⟩
      · generalize (L.take k).map (fun l => D.int (ixX f l : Int)) = Z at *
        simp [hky, hget, LIM, hZ0]
      · simp [ea]
    · have hput := put_entK hin
      have ea : addX f l = f ++ [l] := by unfold addX; rw [if_neg hin]
      have hget := get_entK (l := f ++ [l]) (r := l) (by simp)
      have hcong : (L.take k).map (fun l => D.int (ixX f l : Int)) = (L.take k).map fun x => D.int (ixX (f ++ [l]) x : Int) := List.map_congr_left fun x hx => by rw [ixX_app (hmm x hx)]
      have hZ : ((L.take k).map fun x => D.int (ixX (f ++ [l]) x : Int)).length < 1000000 := by rw [List.length_map]; omega
      rw [hcong]
      refine seq_step (e1 := [some RD, some CD, some (.lst (L.map rowD)), some (.dht (entK (f ++ [l]))), some (.lst ((L.take k).map fun x => D.int (ixX (f ++ [l]) x : Int))), some (rowD l), none, none, none]) (by simp [hky, hsome, hin, LIM, len_entK, show f.length < 1000000 by omega, hput]) ?_
      refine ⟨.nx, [some RD, some CD, some (.lst (L.map rowD)), some (.dht (entK (f ++ [l]))), some (.lst (((L.take k).map fun x => D.int (ixX (f ++ [l]) x : Int)) ++ [.int (ixX (f ++ [l]) l : Int)])), some (rowD l), none, none, none], ?_, rfl, some (rowD l), ?_⟩
      · generalize (L.take k).map (fun x => D.int (ixX (f ++ [l]) x : Int)) = Z at *
        simp [hky, hget, LIM, hZ]
      · simp [ea]
  · rintro e' ⟨z5, rfl⟩
    refine ⟨rfl, ?_⟩
    rw [List.length_map, List.take_length]
    exact ⟨.rt (.lst (L.map fun l => D.int (ixX (L.foldl addX []) l : Int))), _, by simp; rfl, rfl, by simp⟩

/-! ### alike -/
def gSh (m : Int) (d : D) : D := match d with
  | .tup [.int a, .int t] => prD (a, t + m)
  | _ => .non
def gShR (m : Int) (d : D) : D := match d with
  | .tup xs => .tup (xs.map (gSh m))
  | _ => .non
theorem gShR_row (m : Int) (r : List Pr) : gShR m (rowD r) = rowD (r.map fun e => (e.1, e.2 + m)) := by
  show D.tup ((r.map prD).map (gSh m)) = _
  unfold rowD
  rw [List.map_map, List.map_map]
  rfl
/-- alike, told by the colours at the end -/
theorem alike_run {MA MB RD : D} {a : Nat} {ra : List D} {rb : List (List Pr)} {U : Rows} (hchk : f_check_machines [MA, MB] = .ok .non [MA, MB]) (hA : gIx MA (.int 1) = some (.tup ra)) (hal : ra.length = a) (hB : gIx MB (.int 1) = some (.tup (rb.map rowD))) (hrb : ∀ r ∈ rb, r.length ≤ 100000) (hRD : D.lst (ra ++ (rb.map fun r => r.map fun e => (e.1, e.2 + (a : Int))).map rowD) = RD) (hUl : U.length = a + rb.length) (hU1 : 0 < a) (hB1 : 0 < rb.length) (hUs : U.length ≤ 1000)
    (h0 : (U.map fun _ => D.int 0) = (ra ++ (rb.map fun r => r.map fun e => (e.1, e.2 + (a : Int))).map rowD).map fun _ => D.int 0) (hrec : ∀ k, f_recoloured [RD, .lst ((cI U k).map .int)] = .ok (.lst ((cI U (k + 1)).map .int)) [RD, .lst ((cI U k).map .int)])
    (hmono : ∀ k, mI U k ≤ mI U (k + 1)) : ∃ k, mI U (k + 1) = mI U k ∧ f_alike [MA, MB] = .ok (.bl (decide ((cI U (k + 1)).getD 0 0 = (cI U (k + 1)).getD a 0))) [MA, MB] := by
  suffices h : ∃ dd r, f_alike [MA, MB] = .ok dd r ∧ ∃ k, mI U (k + 1) = mI U k ∧ dd = .bl (decide ((cI U (k + 1)).getD 0 0 = (cI U (k + 1)).getD a 0)) ∧ r = [MA, MB] by
    obtain ⟨_, _, h, k, h1, rfl, rfl⟩ := h
    exact ⟨k, h1, h⟩
  have hlc := lcP (vs := [6]) (it := itE (bin gIx (.d (rd 1)) (.d (cst (.int 1))))) (t := tgN 6) (c := pu true) (x := (callB bTuple [(.d (lcE [7, 8] (itE (rd 6)) (tgT [(tgN 7), (tgN 8)]) (pu true) (tupE [(rd 7), (bin Cr.gAdd (.d (rd 8)) (.d (rd 2)))])))]))
    (e := [some MA, some MB, some (.int a), none, none, none, none, none, none, none]) (ds := rb.map rowD) (fun _ => true) (gShR a) (by simp [hB]) (by simp; omega) (by
      intro d hd
      obtain ⟨r, hrU, rfl⟩ := List.mem_map.mp hd
      refine ⟨[some MA, some MB, some (.int a), none, none, none, some (rowD r), none, none, none], by simp [wipeE], by simp [wipeE], by simp, fun _ => ?_⟩
      have hr := hrb r hrU
      have hi := lcP (vs := [7, 8]) (it := itE (rd 6)) (t := tgT [(tgN 7), (tgN 8)]) (c := pu true) (x := tupE [(rd 7), (bin Cr.gAdd (.d (rd 8)) (.d (rd 2)))])
        (e := [some MA, some MB, some (.int a), none, none, none, some (rowD r), none, none, none]) (ds := r.map prD) (fun _ => true) (gSh a) (by simp [rowD]) (by simp; omega) (by
          intro d hd
          obtain ⟨e, _, rfl⟩ := List.mem_map.mp hd
          exact ⟨[some MA, some MB, some (.int a), none, none, none, some (rowD r), some (.int e.1), some (.int e.2), none], by simp [wipeE, tgT, tgs, prD], by simp [wipeE], by simp, fun _ => by simp [gSh, prD]⟩)
      rw [show (r.map prD).filter (fun _ => true) = r.map prD from List.filter_eq_self.mpr fun _ _ => rfl] at hi
      have hsh : D.tup ((r.map prD).map (gSh a)) = gShR a (rowD r) := rfl
      generalize (r.map prD).map (gSh a) = Z at *
      simp [hi, hsh])
  rw [show (rb.map rowD).filter (fun _ => true) = rb.map rowD from List.filter_eq_self.mpr fun _ _ => rfl] at hlc
  have hmm : (rb.map rowD).map (gShR a) = (rb.map fun r => r.map fun e => (e.1, e.2 + (a : Int))).map rowD := by
    rw [List.map_map, List.map_map]
    exact List.map_congr_left fun r _ => gShR_row a r
  rw [hmm] at hlc
  have hcl := cI_len U
  have hzl : ((rb.map fun r => r.map fun e => (e.1, e.2 + (a : Int))).map rowD).length = rb.length := by simp
  generalize (rb.map fun r => r.map fun e => (e.1, e.2 + (a : Int))).map rowD = RB at *
  have hml := mI_le (U := U)
  have hadd : gAddL (.lst ra) (.lst RB) = some RD := by
    unfold gAddL
    simp only []
    rw [if_pos (by omega), hRD]
  have hit3 : ∀ e : Sl, e[3]? = some (some RD) → itE (rd 3) e = .ok (ra ++ RB) e := fun e he => by
    rw [← hRD] at he
    simp [he]
  refine fn_wp ?_
  refine seq_step (e1 := [some MA, some MB, none, none, none, none, none, none, none, none]) (by simp [hchk]) ?_
  refine seq_step (e1 := [some MA, some MB, some (.int a), none, none, none, none, none, none, none]) (by simp [hA, hal]) ?_
  refine seq_step (e1 := [some MA, some MB, some (.int a), some RD, none, none, none, none, none, none]) (by simp [hA, hlc, hadd]) ?_
  have hz := lcP (vs := [9]) (it := itE (rd 3)) (t := tgN 9) (c := pu true) (x := cst (.int 0)) (e := [some MA, some MB, some (.int a), some RD, none, none, none, none, none, none]) (ds := ra ++ RB) (fun _ => true) (fun _ => .int 0) (hit3 _ rfl) (by rw [List.length_append]; omega) (by
    intro d hd
    exact ⟨[some MA, some MB, some (.int a), some RD, none, none, none, none, none, some d], by simp [wipeE], by simp [wipeE], by simp, fun _ => by simp⟩)
  rw [show (ra ++ RB).filter (fun _ => true) = ra ++ RB from List.filter_eq_self.mpr fun _ _ => rfl, ← h0] at hz
  have hc0 : (U.map fun _ => D.int 0) = (cI U 0).map .int := by unfold cI; rw [List.map_map]; rfl
  rw [hc0] at hz
  refine seq_step (e1 := [some MA, some MB, some (.int a), some RD, some (.lst ((cI U 0).map .int)), none, none, none, none, none]) (by simp [hz]) ?_
  refine seq_step (e1 := [some MA, some MB, some (.int a), some RD, some (.lst ((cI U 0).map .int)), some (.int (mI U 0 : Int)), none, none, none, none]) (by simp [mI]) ?_
  refine while_wp (fun m e => ∃ k, m + mI U k = max U.length 1 + 1 ∧ e = [some MA, some MB, some (.int a), some RD, some (.lst ((cI U k).map .int)), some (.int (mI U k : Int)), none, none, none, none]) ?_ _ (max U.length 1 + 1 - mI U 0) _ ⟨0, by have := hml 0; omega, rfl⟩ (by show _ < 1000000; omega)
  rintro m e ⟨k, hm, rfl⟩
  refine ⟨true, [some MA, some MB, some (.int a), some RD, some (.lst ((cI U k).map .int)), some (.int (mI U k : Int)), none, none, none, none], by simp, ?_⟩
  rw [if_pos rfl]
  have hr := hrec k
  have hl1 := hcl (k + 1)
  have hmk := hml (k + 1)
  have hmo := hmono k
  obtain ⟨c0, cs, hcc⟩ : ∃ c0 cs, cI U (k + 1) = c0 :: cs := by
    cases h : cI U (k + 1) with
    | nil => rw [h] at hl1; simp at hl1; omega
    | cons x y => exact ⟨x, y, rfl⟩
  have hmax : maxL c0 cs + 1 = (mI U (k + 1) : Int) := numX_max (L := U.map (lk (cI U k))) hcc
  have hbm : bMaxL [.lst ((cI U (k + 1)).map .int)] = some (.int (maxL c0 cs)) := by
    unfold bMaxL
    simp only [intsD_map, hcc]
  have hg0 : atD ((cI U (k + 1)).map D.int) 0 = some (.int ((cI U (k + 1)).getD 0 0)) := by
    show atD _ ((0 : Nat) : Int) = _
    rw [at_nat, List.getElem?_map, hcc]; rfl
  have hga : atD ((cI U (k + 1)).map D.int) (a : Int) = some (.int ((cI U (k + 1)).getD a 0)) := by
    rw [at_nat, List.getElem?_map, List.getElem?_eq_getElem (by omega), List.getD_eq_getElem?_getD, List.getElem?_eq_getElem (by omega)]; rfl
  have hq := gEq_int (mI U (k + 1) : Int) (mI U k : Int)
  have hq2 := gEq_int ((cI U (k + 1)).getD 0 0) ((cI U (k + 1)).getD a 0)
  have hI : [some MA, some MB, some (.int a), some RD, some (.lst ((cI U (k + 1)).map .int)), some (.int (mI U (k + 1) : Int)), none, none, none, none] = [some MA, some MB, some (.int a), some RD, some (.lst ((cI U (k + 1)).map .int)), some (.int (mI U (k + 1) : Int)), none, none, none, none] := rfl
  generalize hC1 : (cI U (k + 1)).map D.int = C1 at *
  refine seq_step (e1 := [some MA, some MB, some (.int a), some RD, some (.lst C1), some (.int (mI U k : Int)), none, none, none, none]) (by simp [hr]) ?_
  by_cases hs : mI U (k + 1) = mI U k
  · have hq' : gEq (.int (mI U (k + 1) : Int)) (.int (mI U k : Int)) = some (.bl true) := by rw [hq, hs]; simp
    refine seq_ret ⟨.rt (.bl (decide ((cI U (k + 1)).getD 0 0 = (cI U (k + 1)).getD a 0))), [some MA, some MB, some (.int a), some RD, some (.lst C1), some (.int (mI U k : Int)), none, none, none, none], ?_, .inr ⟨_, rfl, ?_⟩⟩
    · rw [hmax.symm] at hq'
      generalize (cI U (k + 1)).getD 0 0 = x0 at *
      generalize (cI U (k + 1)).getD a 0 = x1 at *
      simp [hbm, hq', hg0, hga]
      first | done | rfl | (rw [Bool.eq_iff_iff]; simp)
    · exact ⟨_, _, rfl, rfl, k, hs, rfl, rfl⟩
  · have hq' : gEq (.int (mI U (k + 1) : Int)) (.int (mI U k : Int)) = some (.bl false) := by rw [hq, decide_eq_false (by omega)]
    refine seq_if_f (e1 := [some MA, some MB, some (.int a), some RD, some (.lst C1), some (.int (mI U k : Int)), none, none, none, none]) ?_ ?_
    · rw [hmax.symm] at hq'
      simp [hbm, hq']
    · refine ⟨.nx, [some MA, some MB, some (.int a), some RD, some (.lst C1), some (.int (mI U (k + 1) : Int)), none, none, none, none], ?_, max U.length 1 + 1 - mI U (k + 1), by omega, k + 1, by omega, by rw [hC1]⟩
      rw [hmax.symm]
      simp [hbm]
theorem alike_ok {n : Nat} {A B : Rows} (oa : OkMc n A) (ob : OkMc n B) (hab : A.length + B.length ≤ 1000) : ∃ b, f_alike [mcD n A, mcD n B] = .ok (.bl b) [mcD n A, mcD n B] ∧ (b = true ↔ BS A B 0 0) := by
  have la := oa.l1
  have lb := ob.l1
  have hl := union_len A B
  have hU := union_in oa ob
  have hsum : ∀ (X : Rows), (X.map List.length).sum ≤ 6000 → ∀ r ∈ X, r.length ≤ 6000 := by
    intro X
    induction X with
    | nil => intro _ r h; cases h
    | cons x X ih =>
      intro h r hr
      rw [List.map_cons, List.sum_cons] at h
      rcases List.mem_cons.mp hr with e | e
      · rw [e]; omega
      · exact ih (by omega) r e
  have hra := hsum A oa.few
  have hrb := hsum B ob.few
  have hrU : ∀ r ∈ unionR A B, r.length ≤ 100000 := fun r hr => by
    rcases List.mem_append.mp hr with z | z
    · have := hra r z; omega
    · obtain ⟨r', h', rfl⟩ := List.mem_map.mp z
      have := hrb r' h'
      simp only [List.length_map]; omega
  have hdat : (unionR A B).map rowD = A.map rowD ++ (B.map fun r => r.map fun e => (e.1, e.2 + (A.length : Int))).map rowD := by unfold unionR; rw [List.map_append]
  obtain ⟨k, hk, h⟩ := alike_run (MA := mcD n A) (MB := mcD n B) (RD := .lst ((unionR A B).map rowD)) (a := A.length) (ra := A.map rowD) (rb := B) (U := unionR A B) (bothm_ok oa ob) rfl (List.length_map ..) rfl (fun r hr => by have := hrb r hr; omega) (by rw [hdat]) hl (by omega) (by omega) (by omega)
    (by rw [← hdat, List.map_map]; rfl) (fun k => recol_ok (by omega) hrU (fun r hr e he => by rw [cI_len]; exact hU r hr e he)) (fun k => mI_mono hU (by omega) k)
  exact ⟨_, h, by rw [decide_eq_true_eq]; exact colour_bs oa ob hk⟩

/-! ### the law's own: the greatest set -/
def holdB (A B : Rows) (L : List Pr) (x : Pr) : Bool := (rowAt A x.1).all (fun e => (rowAt B x.2).any fun f => decide (f.1 = e.1) && decide ((e.2, f.2) ∈ L)) && (rowAt B x.2).all (fun f => (rowAt A x.1).any fun e => decide (e.1 = f.1) && decide ((e.2, f.2) ∈ L))
theorem nil_any {α : Type} {l : List α} {p : α → Bool} {g : α → Int} : decide ((l.filter p).map g = []) = !(l.any p) := by
  rw [Bool.eq_iff_iff, decide_eq_true_eq, List.map_eq_nil_iff, List.filter_eq_nil_iff, Bool.not_eq_true', List.any_eq_false]
theorem rowh_run {MA MB : D} {p q : Int} {ra rb L : List Pr} (hA : gIx MA (.int 1) = some (.tup ra')) (hA2 : atD ra' p = some (rowD ra)) (hB : gIx MB (.int 1) = some (.tup rb')) (hB2 : atD rb' q = some (rowD rb)) (hal : ra.length ≤ 100000) (hbl : rb.length ≤ 100000) :
    f__law_row_holds [MA, .int p, MB, .int q, .lst (L.map prD)] = .ok (.bl (ra.all (fun e => rb.any fun f => decide (f.1 = e.1) && decide ((e.2, f.2) ∈ L)) && rb.all (fun f => ra.any fun e => decide (e.1 = f.1) && decide ((e.2, f.2) ∈ L)))) [MA, .int p, MB, .int q, .lst (L.map prD)] := by
  have hin : ∀ x y : Int, gIn (.tup [.int x, .int y]) (.lst (L.map prD)) = some (.bl (decide ((x, y) ∈ L))) := fun x y => gIn_prs (x, y) L
  refine fn_val rfl rfl (by simp) ?_
  refine seq_ret (for_wp (ds := ra.map prD) (fun k e' => ((ra.take k).all (fun e => rb.any fun f => decide (f.1 = e.1) && decide ((e.2, f.2) ∈ L))) = true ∧ ∃ z5 z6 : Option D, e' = [some MA, some (.int p), some MB, some (.int q), some (.lst (L.map prD)), z5, z6, none, none])
    (e1 := [some MA, some (.int p), some MB, some (.int q), some (.lst (L.map prD)), none, none, none, none]) (by simp [hA, hA2, rowD]) ⟨rfl, none, none, rfl⟩ ?_ ?_)
  · rintro k dk e' hk ⟨hall, z5, z6, rfl⟩
    rw [List.getElem?_map] at hk
    obtain ⟨e, he, rfl⟩ := Option.map_eq_some_iff.mp hk
    have htk : ra.take (k + 1) = ra.take k ++ [e] := by rw [List.take_succ, he]; rfl
    refine ⟨[some MA, some (.int p), some MB, some (.int q), some (.lst (L.map prD)), some (.int e.1), some (.int e.2), none, none], by simp [tgT, tgs, prD], ?_⟩
    have hlc := lcP (vs := [8, 7]) (it := itE (bin gIx (.d (bin gIx (.d (rd 2)) (.d (cst (.int 1))))) (.d (rd 3)))) (t := tgT [(tgN 8), (tgN 7)]) (c := andT (tstB (bin gEq (.d (rd 8)) (.d (rd 5)))) (tstB (bin gIn (.d (tupE [(rd 6), (rd 7)])) (.d (rd 4))))) (x := rd 7)
      (e := [some MA, some (.int p), some MB, some (.int q), some (.lst (L.map prD)), some (.int e.1), some (.int e.2), none, none]) (ds := rb.map prD) (fun d => match d with | .tup [.int b, .int y] => decide (b = e.1) && decide ((e.2, y) ∈ L) | _ => false) (fun d => match d with | .tup [_, .int y] => .int y | _ => .non) (by simp [hB, hB2, rowD]) (by simp; omega) (by
        intro d hd
        obtain ⟨f, _, rfl⟩ := List.mem_map.mp hd
        have h1 := gEq_int f.1 e.1
        have h2 := hin e.2 f.2
        refine ⟨[some MA, some (.int p), some MB, some (.int q), some (.lst (L.map prD)), some (.int e.1), some (.int e.2), some (.int f.2), some (.int f.1)], by simp [wipeE, tgT, tgs, prD], by simp [wipeE], ?_, fun _ => by simp [prD]⟩
        by_cases hf : f.1 = e.1
        · rw [hf] at h1 ⊢
          simp [h1, h2, prD, hf]
        · simp [h1, hf, prD])
    have hres : ((rb.map prD).filter (fun d => match d with | .tup [.int b, .int y] => decide (b = e.1) && decide ((e.2, y) ∈ L) | _ => false)).map (fun d => match d with | .tup [_, .int y] => D.int y | _ => .non) = ((rb.filter fun f => decide (f.1 = e.1) && decide ((e.2, f.2) ∈ L)).map fun f => f.2).map D.int := by
      rw [List.filter_map, List.map_map, List.map_map]
      rfl
    rw [hres] at hlc
    have hq := gEq_ints ((rb.filter fun f => decide (f.1 = e.1) && decide ((e.2, f.2) ∈ L)).map fun f => f.2) []
    rw [List.map_nil, nil_any] at hq
    generalize ((rb.filter fun f => decide (f.1 = e.1) && decide ((e.2, f.2) ∈ L)).map fun f => f.2).map D.int = Z at *
    cases hany : rb.any fun f => decide (f.1 = e.1) && decide ((e.2, f.2) ∈ L) with
    | true =>
      rw [hany] at hq
      exact ⟨.nx, [some MA, some (.int p), some MB, some (.int q), some (.lst (L.map prD)), some (.int e.1), some (.int e.2), none, none], by simp [hlc, hq], by rw [htk, List.all_append, hall]; simp [hany], some (.int e.1), some (.int e.2), rfl⟩
    | false =>
      rw [hany] at hq
      have hno : ra.all (fun e => rb.any fun f => decide (f.1 = e.1) && decide ((e.2, f.2) ∈ L)) = false := List.all_eq_false.mpr ⟨e, List.mem_of_getElem? he, by rw [hany]; decide⟩
      exact ⟨.rt (.bl false), [some MA, some (.int p), some MB, some (.int q), some (.lst (L.map prD)), some (.int e.1), some (.int e.2), none, none], by simp [hlc, hq], .inr ⟨_, rfl, by rw [hno]; rfl, rfl⟩⟩
  · rintro e' ⟨hall, z5, z6, rfl⟩
    rw [List.length_map, List.take_length] at hall
    refine .inl ⟨rfl, ?_⟩
    rw [hall, Bool.true_and]
    clear hall
    refine seq_ret (for_wp (ds := rb.map prD) (fun k e' => ((rb.take k).all (fun f => ra.any fun e => decide (e.1 = f.1) && decide ((e.2, f.2) ∈ L))) = true ∧ ∃ z5 z6 z7 : Option D, e' = [some MA, some (.int p), some MB, some (.int q), some (.lst (L.map prD)), z5, z6, z7, none])
      (e1 := [some MA, some (.int p), some MB, some (.int q), some (.lst (L.map prD)), z5, z6, none, none]) (by simp [hB, hB2, rowD]) ⟨rfl, z5, z6, none, rfl⟩ ?_ ?_)
    · rintro k dk e' hk ⟨hall, z5, z6, z7, rfl⟩
      rw [List.getElem?_map] at hk
      obtain ⟨f, he, rfl⟩ := Option.map_eq_some_iff.mp hk
      have htk : rb.take (k + 1) = rb.take k ++ [f] := by rw [List.take_succ, he]; rfl
      refine ⟨[some MA, some (.int p), some MB, some (.int q), some (.lst (L.map prD)), some (.int f.1), z6, some (.int f.2), none], by simp [tgT, tgs, prD], ?_⟩
      have hlc : lcE [8, 6] (itE (bin gIx (.d (bin gIx (.d (rd 0)) (.d (cst (.int 1))))) (.d (rd 1)))) (tgT [(tgN 8), (tgN 6)]) (andT (tstB (bin gEq (.d (rd 8)) (.d (rd 5)))) (tstB (bin gIn (.d (tupE [(rd 6), (rd 7)])) (.d (rd 4))))) (rd 6) [some MA, some (.int p), some MB, some (.int q), some (.lst (L.map prD)), some (.int f.1), z6, some (.int f.2), none] = .ok (.lst (((ra.filter fun e => decide (e.1 = f.1) && decide ((e.2, f.2) ∈ L)).map fun e => e.2).map D.int)) [some MA, some (.int p), some MB, some (.int q), some (.lst (L.map prD)), some (.int f.1), z6, some (.int f.2), none] := by
        have h := lcP (vs := [8, 6]) (it := itE (bin gIx (.d (bin gIx (.d (rd 0)) (.d (cst (.int 1))))) (.d (rd 1)))) (t := tgT [(tgN 8), (tgN 6)]) (c := andT (tstB (bin gEq (.d (rd 8)) (.d (rd 5)))) (tstB (bin gIn (.d (tupE [(rd 6), (rd 7)])) (.d (rd 4))))) (x := rd 6)
          (e := [some MA, some (.int p), some MB, some (.int q), some (.lst (L.map prD)), some (.int f.1), z6, some (.int f.2), none]) (ds := ra.map prD) (fun d => match d with | .tup [.int b, .int y] => decide (b = f.1) && decide ((y, f.2) ∈ L) | _ => false) (fun d => match d with | .tup [_, .int y] => .int y | _ => .non) (by simp [hA, hA2, rowD]) (by simp; omega) (by
            intro d hd
            obtain ⟨e, _, rfl⟩ := List.mem_map.mp hd
            have h1 := gEq_int e.1 f.1
            have h2 := hin e.2 f.2
            refine ⟨[some MA, some (.int p), some MB, some (.int q), some (.lst (L.map prD)), some (.int f.1), some (.int e.2), some (.int f.2), some (.int e.1)], by simp [wipeE, tgT, tgs, prD], by simp [wipeE], ?_, fun _ => by simp [prD]⟩
            by_cases hf : e.1 = f.1
            · rw [hf] at h1
              simp [h1, h2, prD, hf]
            · simp [h1, hf, prD])
        have hres : ((ra.map prD).filter (fun d => match d with | .tup [.int b, .int y] => decide (b = f.1) && decide ((y, f.2) ∈ L) | _ => false)).map (fun d => match d with | .tup [_, .int y] => D.int y | _ => .non) = ((ra.filter fun e => decide (e.1 = f.1) && decide ((e.2, f.2) ∈ L)).map fun e => e.2).map D.int := by
          rw [List.filter_map, List.map_map, List.map_map]
          rfl
        rw [hres] at h
        exact h
      have hq := gEq_ints ((ra.filter fun e => decide (e.1 = f.1) && decide ((e.2, f.2) ∈ L)).map fun e => e.2) []
      rw [List.map_nil, nil_any] at hq
      generalize ((ra.filter fun e => decide (e.1 = f.1) && decide ((e.2, f.2) ∈ L)).map fun e => e.2).map D.int = Z at *
      cases hany : ra.any fun e => decide (e.1 = f.1) && decide ((e.2, f.2) ∈ L) with
      | true =>
        rw [hany] at hq
        exact ⟨.nx, [some MA, some (.int p), some MB, some (.int q), some (.lst (L.map prD)), some (.int f.1), z6, some (.int f.2), none], by simp [hlc, hq], by rw [htk, List.all_append, hall]; simp [hany], some (.int f.1), z6, some (.int f.2), rfl⟩
      | false =>
        rw [hany] at hq
        have hno : rb.all (fun f => ra.any fun e => decide (e.1 = f.1) && decide ((e.2, f.2) ∈ L)) = false := List.all_eq_false.mpr ⟨f, List.mem_of_getElem? he, by rw [hany]; decide⟩
        exact ⟨.rt (.bl false), [some MA, some (.int p), some MB, some (.int q), some (.lst (L.map prD)), some (.int f.1), z6, some (.int f.2), none], by simp [hlc, hq], .inr ⟨_, rfl, by rw [hno], rfl⟩⟩
    · rintro e' ⟨hall, z5, z6, z7, rfl⟩
      rw [List.length_map, List.take_length] at hall
      rw [hall]
      exact .inl ⟨rfl, .rt (.bl true), _, by simp; rfl, rfl, rfl⟩

def gridP (a b : Nat) : List Pr := (List.range a).flatMap fun (p : Nat) => (List.range b).map fun (q : Nat) => ((p : Int), (q : Int))
theorem grid_mem {a b : Nat} {x : Pr} : x ∈ gridP a b ↔ (0 ≤ x.1 ∧ x.1 < a) ∧ (0 ≤ x.2 ∧ x.2 < b) := by
  obtain ⟨p, q⟩ := x
  unfold gridP
  simp only [List.mem_flatMap, List.mem_range, List.mem_map, Prod.mk.injEq]
  constructor
  · rintro ⟨i, hi, j, hj, rfl, rfl⟩
    exact ⟨⟨by omega, by omega⟩, by omega, by omega⟩
  · rintro ⟨⟨h1, h2⟩, h3, h4⟩
    exact ⟨p.toNat, by omega, q.toNat, by omega, by omega, by omega⟩
theorem grid_len (a b : Nat) : (gridP a b).length = a * b := by
  unfold gridP
  induction a with
  | zero => simp
  | succ a ih =>
    rw [List.range_succ, List.flatMap_append, List.length_append, ih, List.flatMap_singleton, List.length_map, List.length_range, Nat.add_mul, Nat.one_mul]
def lI (A B : Rows) : Nat → List Pr
  | 0 => gridP A.length B.length
  | k + 1 => (lI A B k).filter (holdB A B (lI A B k))
theorem lI_gr (A B : Rows) : ∀ k, ∀ x ∈ lI A B k, Gr A B x
  | 0, x, h => grid_mem.mp h
  | k + 1, x, h => lI_gr A B k x (List.mem_filter.mp h).1
theorem hold_iff {A B : Rows} {L : List Pr} {x : Pr} : holdB A B L x = true ↔ (∀ e ∈ rowAt A x.1, ∃ f ∈ rowAt B x.2, f.1 = e.1 ∧ (e.2, f.2) ∈ L) ∧ ∀ f ∈ rowAt B x.2, ∃ e ∈ rowAt A x.1, e.1 = f.1 ∧ (e.2, f.2) ∈ L := by
  unfold holdB
  simp only [Bool.and_eq_true, List.all_eq_true, List.any_eq_true, decide_eq_true_eq]
theorem lI_sup {A B : Rows} {S : Pr → Prop} (h1 : Sim A B S) (h2 : ∀ x, S x → Gr A B x) : ∀ k x, S x → x ∈ lI A B k
  | 0, x, h => grid_mem.mpr (h2 x h)
  | k + 1, x, h => by
    have ih := lI_sup h1 h2 k
    obtain ⟨a, b⟩ := h1 x.1 x.2 h
    exact List.mem_filter.mpr ⟨ih x h, hold_iff.mpr ⟨fun e he => by obtain ⟨f, hf, e1, e2⟩ := a e he; exact ⟨f, hf, e1, ih _ e2⟩, fun f hf => by obtain ⟨e, he, e1, e2⟩ := b f hf; exact ⟨e, he, e1, ih _ e2⟩⟩⟩
theorem lI_stable {A B : Rows} {k : Nat} (h : (lI A B (k + 1)).length = (lI A B k).length) : ((0, 0) : Pr) ∈ lI A B k ↔ BS A B 0 0 := by
  have hall : ∀ x ∈ lI A B k, holdB A B (lI A B k) x = true := List.filter_eq_self.mp (List.filter_sublist.eq_of_length h)
  constructor
  · intro h0
    exact ⟨fun x => x ∈ lI A B k, fun p q hs => hold_iff.mp (hall (p, q) hs), lI_gr A B k, h0⟩
  · rintro ⟨S, h1, h2, h3⟩
    exact lI_sup h1 h2 k _ h3
theorem lalike_run {MA MB : D} {A B : Rows} {ra rb : List D} (hA : gIx MA (.int 1) = some (.tup ra)) (hal : ra.length = A.length) (hB : gIx MB (.int 1) = some (.tup rb)) (hbl : rb.length = B.length) (hab : A.length * B.length ≤ 10000) (hA4 : A.length ≤ 400) (hB4 : B.length ≤ 400)
    (hrow : ∀ (L : List Pr) (x : Pr), Gr A B x → f__law_row_holds [MA, .int x.1, MB, .int x.2, .lst (L.map prD)] = .ok (.bl (holdB A B L x)) [MA, .int x.1, MB, .int x.2, .lst (L.map prD)]) :
    ∃ k, (lI A B (k + 1)).length = (lI A B k).length ∧ f__law_alike [MA, MB] = .ok (.bl (decide (((0, 0) : Pr) ∈ lI A B k))) [MA, MB] := by
  suffices h : ∃ dd r, f__law_alike [MA, MB] = .ok dd r ∧ ∃ k, (lI A B (k + 1)).length = (lI A B k).length ∧ dd = .bl (decide (((0, 0) : Pr) ∈ lI A B k)) ∧ r = [MA, MB] by
    obtain ⟨_, _, h, k, h1, rfl, rfl⟩ := h
    exact ⟨k, h1, h⟩
  obtain ⟨N, hN⟩ : ∃ N, A.length * B.length = N := ⟨_, rfl⟩
  rw [hN] at hab
  have hsm : sm (A.length : Int) := sm_of (by omega) (by omega)
  have hmul : ((A.length : Int) * (B.length : Int)) = (N : Int) := by rw [← hN, Int.natCast_mul]
  have hra : (-1000000 : Int) ≤ A.length ∧ (A.length : Int) ≤ 1000000 := by omega
  have hrb : (-1000000 : Int) ≤ B.length ∧ (B.length : Int) ≤ 1000000 := by omega
  have hrn : (-1000000 : Int) ≤ (N : Int) + 1 ∧ (N : Int) + 1 ≤ 1000000 := by omega
  have hn1 : ((N : Int) + 1).toNat = N + 1 := by omega
  have hgl := grid_len A.length B.length
  have hll : ∀ k, (lI A B k).length ≤ N := by
    intro k
    induction k with
    | zero => show (gridP _ _).length ≤ N; omega
    | succ k ih => exact Nat.le_trans (List.length_filter_le _ _) ih
  refine fn_wp ?_
  refine seq_step (e1 := [some MA, some MB, some (.lst []), none, none, none, none, none]) (by simp) ?_
  refine seq_wp (for_nx (ds := rangeD 0 A.length) (fun k e' => ∃ z3 : Option D, e' = [some MA, some MB, some (.lst (((List.range k).flatMap fun (p : Nat) => (List.range B.length).map fun (q : Nat) => ((p : Int), (q : Int))).map prD)), z3, none, none, none, none])
    (e1 := [some MA, some MB, some (.lst []), none, none, none, none, none]) (by simp [hA, hal, hra]) ⟨none, by simp⟩ ?_ ?_)
  · rintro k dk e' hk ⟨z3, rfl⟩
    have hkl : k < A.length := by have := (List.getElem?_eq_some_iff.mp hk).1; simpa [rangeD] using this
    obtain rfl : dk = .int k := by
      have := (List.getElem?_eq_some_iff.mp hk).2
      simp [rangeD] at this
      exact this.symm
    have hgk : ((List.range k).flatMap fun (p : Nat) => (List.range B.length).map fun (q : Nat) => ((p : Int), (q : Int))).length ≤ 400 * 400 := by
      have := grid_len k B.length
      unfold gridP at this
      rw [this]
      exact Nat.mul_le_mul (by omega) hB4
    rw [List.range_succ, List.flatMap_append, List.flatMap_singleton, List.map_append]
    refine ⟨[some MA, some MB, some (.lst (((List.range k).flatMap fun (p : Nat) => (List.range B.length).map fun (q : Nat) => ((p : Int), (q : Int))).map prD)), some (.int k), none, none, none, none], by simp, ?_⟩
    generalize (List.range k).flatMap (fun (p : Nat) => (List.range B.length).map fun (q : Nat) => ((p : Int), (q : Int))) = G0 at *
    have hlc := lcR (i := 6) (it := itR rng1 [(.d (callB bLen [(.d (bin gIx (.d (rd 1)) (.d (cst (.int 1)))))]))]) (c := pu true) (x := tupE [(rd 3), (rd 6)])
      (e := [some MA, some MB, some (.lst (G0.map prD)), some (.int k), none, none, none, none]) (n := B.length) (fun _ => true) (fun (q : Nat) => prD ((k : Int), (q : Int))) (by simp) (by simp [hB, hbl, hrb]) (by omega) (fun q hq => ⟨by simp, fun _ => by simp [prD]⟩)
    rw [show (List.range B.length).filter (fun _ => true) = List.range B.length from List.filter_eq_self.mpr fun _ _ => rfl] at hlc
    have hm : ((List.range B.length).map fun (q : Nat) => ((k : Int), (q : Int))).map prD = (List.range B.length).map fun (q : Nat) => prD ((k : Int), (q : Int)) := by rw [List.map_map]; rfl
    rw [hm]
    have hzl : ((List.range B.length).map fun (q : Nat) => prD ((k : Int), (q : Int))).length = B.length := by simp
    generalize (List.range B.length).map (fun (q : Nat) => prD ((k : Int), (q : Int))) = Z at *
    exact ⟨.nx, [some MA, some MB, some (.lst (G0.map prD ++ Z)), some (.int k), none, none, none, none], by simp [hlc, show G0.length + Z.length ≤ 1000000 by omega], rfl, some (.int k), rfl⟩
  · rintro e' ⟨z3, rfl⟩
    refine ⟨rfl, ?_⟩
    have hl0 : ((List.range (rangeD 0 A.length).length).flatMap fun (p : Nat) => (List.range B.length).map fun (q : Nat) => ((p : Int), (q : Int))) = lI A B 0 := by
      rw [show (rangeD 0 A.length).length = A.length by simp [rangeD]]; rfl
    rw [hl0]
    have hl00 : (lI A B 0).length ≤ N := hll 0
    refine seq_ret (for_wp (ds := rangeD 0 (N + 1)) (fun k e' => k + (lI A B k).length ≤ N ∧ ∃ z4 z5 : Option D, e' = [some MA, some MB, some (.lst ((lI A B k).map prD)), z3, z4, z5, none, none])
      (e1 := [some MA, some MB, some (.lst ((lI A B 0).map prD)), z3, none, none, none, none]) (by simp [hA, hB, hal, hbl, hsm, hmul, hrn, hn1]) ⟨by omega, none, none, rfl⟩ ?_ ?_)
    · rintro k dk e' hk ⟨hkN, z4, z5, rfl⟩
      refine ⟨[some MA, some MB, some (.lst ((lI A B k).map prD)), z3, some dk, z5, none, none], by simp, ?_⟩
      have hgr := lI_gr A B k
      have hlk := hll k
      have hnext : lI A B (k + 1) = (lI A B k).filter (holdB A B (lI A B k)) := rfl
      have hfl := List.length_filter_le (holdB A B (lI A B k)) (lI A B k)
      have hin0 : gIn (.tup [.int 0, .int 0]) (.lst ((lI A B k).map prD)) = some (.bl (decide (((0, 0) : Pr) ∈ lI A B k))) := gIn_prs (0, 0) _
      have hlc := lcP (vs := [7]) (it := itE (rd 2)) (t := tgN 7) (c := tstB (callF f__law_row_holds [(.d (rd 0)), (.d (bin gIx (.d (rd 7)) (.d (cst (.int 0))))), (.d (rd 1)), (.d (bin gIx (.d (rd 7)) (.d (cst (.int 1))))), (.d (rd 2))])) (x := rd 7)
        (e := [some MA, some MB, some (.lst ((lI A B k).map prD)), z3, some dk, z5, none, none]) (ds := (lI A B k).map prD) (fun d => match d with | .tup [.int x, .int y] => holdB A B (lI A B k) (x, y) | _ => false) (fun d => d) (by simp) (by simp; omega) (by
          intro d hd
          obtain ⟨x, hx, rfl⟩ := List.mem_map.mp hd
          have h := hrow (lI A B k) x (hgr x hx)
          generalize (lI A B k).map prD = Z at *
          refine ⟨[some MA, some MB, some (.lst Z), z3, some dk, z5, none, some (prD x)], by simp [wipeE], by simp [wipeE], ?_, fun _ => by simp⟩
          simp [prD, h])
      have hres : (((lI A B k).map prD).filter (fun d => match d with | .tup [.int x, .int y] => holdB A B (lI A B k) (x, y) | _ => false)).map (fun d => d) = (lI A B (k + 1)).map prD := by
        rw [List.map_id', List.filter_map, hnext]
        rfl
      rw [hres] at hlc
      rw [← hnext] at hfl
      refine seq_step (e1 := [some MA, some MB, some (.lst ((lI A B k).map prD)), z3, some dk, some (.lst ((lI A B (k + 1)).map prD)), none, none]) (by simp [hlc]) ?_
      have hq := gEq_int ((lI A B (k + 1)).length : Int) ((lI A B k).length : Int)
      have hl1 : ((lI A B (k + 1)).map prD).length = (lI A B (k + 1)).length := List.length_map ..
      have hl2 : ((lI A B k).map prD).length = (lI A B k).length := List.length_map ..
      by_cases hs : (lI A B (k + 1)).length = (lI A B k).length
      · rw [hs, decide_eq_true rfl] at hq
        rw [hs] at hl1
        have : ∀ (Z1 Z2 : List D) (l : Int) (b : Bool), (Z1.length : Int) = l → (Z2.length : Int) = l → gEq (.int l) (.int l) = some (.bl true) → gIn (.tup [.int 0, .int 0]) (.lst Z1) = some (.bl b) → seqS (ifS (tstB (bin gEq (.d (callB bLen [(.d (rd 5))])) (.d (callB bLen [(.d (rd 2))])))) (retS (bin gIn (.d (tupE [(cst (.int 0)), (cst (.int 0))])) (.d (rd 2)))) Cr.nx) (asg (rd 5) (tgN 2)) [some MA, some MB, some (.lst Z1), z3, some dk, some (.lst Z2), none, none] = .ok (.rt (.bl b)) [some MA, some MB, some (.lst Z1), z3, some dk, some (.lst Z2), none, none] := fun Z1 Z2 l b h1 h2 h3 h4 => by
          refine seq_rt ?_
          rw [if_t (e1 := [some MA, some MB, some (.lst Z1), z3, some dk, some (.lst Z2), none, none]) (by simp [h1, h2, h3])]
          simp [h4]
        exact ⟨.rt (.bl (decide (((0, 0) : Pr) ∈ lI A B k))), _, this _ _ ((lI A B k).length : Int) _ (by rw [hl2]) (by rw [hl1]) hq hin0, .inr ⟨_, rfl, _, _, rfl, rfl, k, hs, rfl, rfl⟩⟩
      · rw [decide_eq_false (by omega)] at hq
        refine seq_if_f (e1 := [some MA, some MB, some (.lst ((lI A B k).map prD)), z3, some dk, some (.lst ((lI A B (k + 1)).map prD)), none, none]) (by simp [hq]) ?_
        exact ⟨.nx, [some MA, some MB, some (.lst ((lI A B (k + 1)).map prD)), z3, some dk, some (.lst ((lI A B (k + 1)).map prD)), none, none], by simp, by omega, some dk, _, rfl⟩
    · rintro e' ⟨hkN, z4, z5, rfl⟩
      have : (rangeD 0 (N + 1)).length = N + 1 := by simp [rangeD]
      omega
theorem lalike_ok {n : Nat} {A B : Rows} (oa : OkMc n A) (ob : OkMc n B) (ha : ∀ r ∈ A, r.length ≤ 6000) (hb : ∀ r ∈ B, r.length ≤ 6000) (hab : A.length * B.length ≤ 10000) : ∃ b, f__law_alike [mcD n A, mcD n B] = .ok (.bl b) [mcD n A, mcD n B] ∧ (b = true ↔ BS A B 0 0) := by
  have hrl : ∀ (X : Rows), (∀ r ∈ X, r.length ≤ 6000) → ∀ q, (rowAt X q).length ≤ 100000 := fun X h q => by
    unfold rowAt
    rw [List.getD_eq_getElem?_getD]
    cases hq : X[q.toNat]? with
    | none => simp
    | some r => have := h r (List.mem_of_getElem? hq); simp; omega
  obtain ⟨k, hk, h⟩ := lalike_run (MA := mcD n A) (MB := mcD n B) (A := A) (B := B) rfl (List.length_map ..) rfl (List.length_map ..) hab oa.l400 ob.l400 (fun L x g => by
    obtain ⟨a1, a2⟩ := row_data (n := n) g.1
    obtain ⟨b1, b2⟩ := row_data (n := n) g.2
    exact rowh_run a1 a2 b1 b2 (hrl A ha _) (hrl B hb _))
  exact ⟨_, h, by rw [decide_eq_true_eq]; exact lI_stable hk⟩

/-! ### a ring -/
theorem ring_ok {a : Nat} (h1 : 1 ≤ a) (h : a ≤ 400) : f__law_ring [.int a] = .ok (mcD 1 (ringR a)) [.int a] := by
  have hr : (-1000000 : Int) ≤ a ∧ (a : Int) ≤ 1000000 := by omega
  have hc := lcR (i := 1) (it := itR rng1 [(.d (rd 0))]) (c := pu true) (x := (tupE [(tupE [(cst (.int 0)), (bin gMod (.d (callB bInt [(.d (bin Cr.gAdd (.d (rd 1)) (.d (cst (.int 1)))))])) (.d (rd 0)))])])) (e := [some (.int a), none]) (n := a) (fun _ => true) (fun (k : Nat) => rowD [((0 : Int), (((k + 1) % a : Nat) : Int))]) (by simp) (by simp [hr]) (by omega) (fun k hk => by
    refine ⟨by simp, fun _ => ?_⟩
    have e : (((k + 1) % a : Nat) : Int) = ((k : Int) + 1) % (a : Int) := by rw [Int.natCast_emod, Int.natCast_add]; rfl
    rw [e]
    simp [rowD, prD, show 0 < a by omega])
  have hf : (List.range a).filter (fun _ => true) = List.range a := List.filter_eq_self.mpr fun _ _ => rfl
  rw [hf] at hc
  have hm : (List.range a).map (fun (k : Nat) => rowD [((0 : Int), (((k + 1) % a : Nat) : Int))]) = (ringR a).map rowD := by unfold ringR; rw [List.map_map]; rfl
  rw [hm] at hc
  exact fn_val rfl rfl (by simp) ⟨.rt (mcD 1 (ringR a)), _, by simp [hc, mcD]; rfl, rfl, by simp⟩

/-! ### rings of any two sizes, one that is cut -/
def cutR (b : Nat) : Rows := (ringR b).take (b - 1) ++ [[]]
theorem cutR_len (b : Nat) (h : 1 ≤ b) : (cutR b).length = b := by
  unfold cutR
  rw [List.length_append, List.length_take, ring_len]
  simp; omega
theorem cut_row {b q : Nat} (h : q + 1 < b) : rowAt (cutR b) (q : Int) = [((0 : Int), ((q + 1 : Nat) : Int))] := by
  have := ring_row (a := b) (q := q) (by omega)
  rw [Nat.mod_eq_of_lt h] at this
  rw [← this]
  unfold rowAt cutR
  rw [Int.toNat_natCast, List.getD_eq_getElem?_getD, List.getD_eq_getElem?_getD, List.getElem?_append_left (by rw [List.length_take, ring_len]; omega), List.getElem?_take_of_lt (by omega)]
theorem cut_end {b q : Nat} (h : q + 1 = b) : rowAt (cutR b) (q : Int) = [] := by
  unfold rowAt cutR
  rw [Int.toNat_natCast, List.getD_eq_getElem?_getD, List.getElem?_append_right (by rw [List.length_take, ring_len]; omega), List.length_take, ring_len, show q - min (b - 1) b = 0 by omega]
  rfl
theorem cut_mc {b : Nat} (h1 : 1 ≤ b) (h : b ≤ 400) : OkMc 1 (cutR b) := by
  have ok := ring_mc h1 h
  refine ⟨by decide, by rw [cutR_len b h1]; exact h1, by rw [cutR_len b h1]; exact h, ?_, fun r hr => ?_⟩
  · unfold cutR
    rw [List.map_append, List.sum_append]
    have h2 : ((ringR b).take (b - 1)).map List.length = List.replicate (b - 1) 1 := by
      unfold ringR
      rw [← List.map_take, List.map_map]
      apply List.ext_getElem?
      intro i
      by_cases hi : i < b - 1
      · simp [hi, show i < b by omega]
      · simp [hi]
    rw [h2, List.sum_replicate_nat]
    simp; omega
  · rw [cutR_len b h1]
    rcases List.mem_append.mp hr with z | z
    · have := ok.row r (List.mem_of_mem_take z)
      rw [ring_len] at this
      exact this
    · rw [List.mem_singleton.mp z]
      exact ⟨(fun e he => absurd he (by simp)), (fun e he => absurd he (by simp)), List.Pairwise.nil⟩
theorem rings_bs {a b : Nat} (ha : 1 ≤ a) (hb : 1 ≤ b) : BS (ringR a) (ringR b) 0 0 := by
  have gr : ∀ p q : Nat, p < a → q < b → Gr (ringR a) (ringR b) ((p : Int), (q : Int)) := fun p q h1 h2 => by
    unfold Gr
    rw [ring_len, ring_len]
    exact ⟨⟨by simp, by simp only []; omega⟩, by simp, by simp only []; omega⟩
  refine ⟨fun x => Gr (ringR a) (ringR b) x, fun p q g => ?_, fun x h => h, gr 0 0 ha hb⟩
  obtain ⟨⟨p0, p1⟩, q0, q1⟩ := g
  rw [ring_len] at p1 q1
  simp only at p0 p1 q0 q1
  obtain ⟨p, rfl⟩ := Int.eq_ofNat_of_zero_le p0
  obtain ⟨q, rfl⟩ := Int.eq_ofNat_of_zero_le q0
  rw [ring_row (show p < a by omega), ring_row (show q < b by omega)]
  have g2 := gr ((p + 1) % a) ((q + 1) % b) (Nat.mod_lt _ (by omega)) (Nat.mod_lt _ (by omega))
  exact ⟨fun e he => ⟨_, List.mem_singleton.mpr rfl, by rw [List.mem_singleton.mp he], by rw [List.mem_singleton.mp he]; exact g2⟩, fun e he => ⟨_, List.mem_singleton.mpr rfl, by rw [List.mem_singleton.mp he], by rw [List.mem_singleton.mp he]; exact g2⟩⟩
theorem cut_bs {a b : Nat} (ha : 1 ≤ a) (hb : 1 ≤ b) : ¬ BS (ringR a) (cutR b) 0 0 := by
  rintro ⟨S, h1, h2, h3⟩
  have key : ∀ q : Nat, q < b → ∃ p : Int, S (p, (q : Int)) := by
    intro q
    induction q with
    | zero => exact fun _ => ⟨0, h3⟩
    | succ q ih =>
      intro hq
      obtain ⟨p, hp⟩ := ih (by omega)
      obtain ⟨⟨p0, p1⟩, _⟩ := h2 _ hp
      rw [ring_len] at p1
      simp only at p0 p1
      obtain ⟨p, rfl⟩ := Int.eq_ofNat_of_zero_le p0
      obtain ⟨s1, _⟩ := h1 _ _ hp
      rw [ring_row (show p < a by omega), cut_row hq] at s1
      obtain ⟨f, hf, _, e2⟩ := s1 _ (List.mem_singleton.mpr rfl)
      rw [List.mem_singleton.mp hf] at e2
      exact ⟨_, e2⟩
  obtain ⟨p, hp⟩ := key (b - 1) (by omega)
  obtain ⟨⟨p0, p1⟩, _⟩ := h2 _ hp
  rw [ring_len] at p1
  simp only at p0 p1
  obtain ⟨p, rfl⟩ := Int.eq_ofNat_of_zero_le p0
  obtain ⟨s1, _⟩ := h1 _ _ hp
  rw [ring_row (show p < a by omega), cut_end (show b - 1 + 1 = b by omega)] at s1
  obtain ⟨f, hf, _⟩ := s1 _ (List.mem_singleton.mpr rfl)
  cases hf
theorem rings_run {d d1 d2 R1 R2 CU : D} {x y a b : Int} {rs : List D} (ht1 : f__law_take [d, .int 40] = .ok (.int x) [d1, .int 40]) (ht2 : f__law_take [d1, .int 40] = .ok (.int y) [d2, .int 40]) (ea : 1 + x = a) (eb : 1 + y = b) (hr1 : f__law_ring [.int a] = .ok R1 [.int a]) (hr2 : f__law_ring [.int b] = .ok R2 [.int b])
    (hR : gIx R2 (.int 1) = some (.tup rs)) (hrs : rs.length ≤ 1000) (hC : D.tup [.int 1, .tup (cutD rs none (some (b - 1)) ++ [.tup []])] = CU) (h1 : f_alike [R1, R2] = .ok (.bl true) [R1, R2]) (h2 : f_alike [R1, CU] = .ok (.bl false) [R1, CU]) (h3 : f_alike [CU, CU] = .ok (.bl true) [CU, CU]) :
    f__law_rings [d] = .ok (.bl true) [d2] := by
  have hcl := cut_len rs none (some (b - 1))
  suffices h : ∃ dd r, f__law_rings [d] = .ok dd r ∧ dd = .bl true ∧ r = [d2] by
    obtain ⟨_, _, h, rfl, rfl⟩ := h
    exact h
  refine fn_wp ?_
  refine seq_step (e1 := [some d2, some (.int a), some (.int b), none]) (by simp [ht1, ht2, ea, eb, tgT, tgs]) ?_
  refine seq_step (e1 := [some d2, some (.int a), some (.int b), some R2]) (by simp [hr2]) ?_
  refine seq_step (e1 := [some d2, some (.int a), some (.int b), some CU]) (by simp [hR, hC, show (cutD rs none (some (b - 1))).length ≤ 999999 by omega]) ?_
  exact ⟨.rt (.bl true), [some d2, some (.int a), some (.int b), some CU], by simp [hr1, hr2, h1, h2, h3, gIsB], _, _, rfl, rfl, rfl, rfl⟩
theorem rings_ok (d : D) (hb : Box d) : ∃ d', f__law_rings [d] = .ok (.bl true) [d'] ∧ Box d' := by
  obtain ⟨x, d1, ht1, B1, x0, x1⟩ := take_ok d 40 hb (by decide) (by decide)
  obtain ⟨x, rfl⟩ := Int.eq_ofNat_of_zero_le x0
  obtain ⟨y, d2, ht2, B2, y0, y1⟩ := take_ok d1 40 B1 (by decide) (by decide)
  obtain ⟨y, rfl⟩ := Int.eq_ofNat_of_zero_le y0
  have a1 : 1 ≤ 1 + x := by omega
  have b1 : 1 ≤ 1 + y := by omega
  have oa := ring_mc a1 (show 1 + x ≤ 400 by omega)
  have ob := ring_mc b1 (show 1 + y ≤ 400 by omega)
  have oc := cut_mc b1 (show 1 + y ≤ 400 by omega)
  have hl1 := ring_len (1 + x)
  have hl2 := ring_len (1 + y)
  have hl3 := cutR_len (1 + y) b1
  obtain ⟨g1, e1, f1⟩ := alike_ok oa ob (by omega)
  obtain ⟨g2, e2, f2⟩ := alike_ok oa oc (by omega)
  obtain ⟨g3, e3, f3⟩ := alike_ok oc oc (by omega)
  have t1 : g1 = true := f1.mpr (rings_bs a1 b1)
  have t2 : g2 = false := by
    cases g2 with
    | false => rfl
    | true => exact absurd (f2.mp rfl) (cut_bs a1 b1)
  have t3 : g3 = true := f3.mpr (BS.refl oc)
  rw [t1] at e1
  rw [t2] at e2
  rw [t3] at e3
  refine ⟨d2, rings_run (a := ((1 + x : Nat) : Int)) (b := ((1 + y : Nat) : Int)) (rs := (ringR (1 + y)).map rowD) ht1 ht2 (by omega) (by omega) (ring_ok a1 (by omega)) (ring_ok b1 (by omega)) rfl (by rw [List.length_map]; omega) ?_ e1 e2 e3, B2⟩
  have : cutD ((ringR (1 + y)).map rowD) none (some (((1 + y : Nat) : Int) - 1)) = ((ringR (1 + y)).take y).map rowD := by
    rw [show (((1 + y : Nat) : Int) - 1) = (y : Int) by omega, cut_to, List.map_take]
  rw [this]
  unfold mcD cutR
  rw [List.map_append, show 1 + y - 1 = y by omega]
  rfl

/-! ### twins -/
@[simp] theorem s_insS (i : Nat) (k m : M D) (e : Sl) : insS i k m e = (bd (rd i) fun _ => bd k fun kd => bd m fun y => bd (rd i) fun d => match d, kd with
  | .lst xs, .int j => if 0 ≤ j ∧ j ≤ 1000000 ∧ xs.length < LIM then bd (wr i (.lst (xs.take j.toNat ++ [y] ++ xs.drop j.toNat))) fun _ => nx else badM
  | _, _ => badM) e := (rfl)
@[simp] theorem s_listR1 (n : Int) : bListR1 [.int n] = if -1000000 ≤ n ∧ n ≤ 1000000 then some (.lst (rangeD 0 n.toNat)) else none := (rfl)
theorem s_sortP6 (L : List Pr) : bSortP [.lst (L.map prD)] = some (.lst ((psort L).map prD)) := by simp [bSortP, prsD_map]
def hmf (H P : List Int) (j : Nat) : Int := H.getD (P.getD j 0).toNat 0
/-- what stands in the row of a twin of p -/
structure Tw (A : Rows) (h : Nat → Int) (m : Nat) (l : List Pr) (E : List Pr) : Prop where
  nd : E.Nodup
  sound : ∀ e ∈ E, ∃ j : Nat, j < m ∧ e.2 = j ∧ (e.1, h j) ∈ l
  full : ∀ e ∈ l, ∃ j : Nat, j < m ∧ h j = e.2 ∧ (e.1, (j : Int)) ∈ E
theorem tw_step {A : Rows} {h : Nat → Int} {m : Nat} {l E : List Pr} {e : Pr} {S : List Int} (t : Tw A h m l E) (hS : ∀ s ∈ S, ∃ j : Nat, j < m ∧ s = j ∧ h j = e.2) (hn : S.Nodup) (hne : S ≠ []) : Tw A h m (l ++ [e]) (E ++ (S.filter fun s => !decide ((e.1, s) ∈ E)).map fun s => (e.1, s)) := by
  refine ⟨?_, fun x hx => ?_, fun x hx => ?_⟩
  · refine List.nodup_append.mpr ⟨t.nd, nd_map (fun a _ b _ z => by simp only [Prod.mk.injEq] at z; exact z.2) (List.Nodup.sublist List.filter_sublist hn), ?_⟩
    rintro a ha b hb rfl
    obtain ⟨s, hs, rfl⟩ := List.mem_map.mp hb
    have := (List.mem_filter.mp hs).2
    simp at this
    exact this ha
  · rcases List.mem_append.mp hx with z | z
    · obtain ⟨j, h1, h2, h3⟩ := t.sound x z
      exact ⟨j, h1, h2, List.mem_append_left _ h3⟩
    · obtain ⟨s, hs, rfl⟩ := List.mem_map.mp z
      obtain ⟨j, h1, rfl, h3⟩ := hS s (List.mem_filter.mp hs).1
      exact ⟨j, h1, rfl, List.mem_append_right _ (by rw [h3]; simp)⟩
  · rcases List.mem_append.mp hx with z | z
    · obtain ⟨j, h1, h2, h3⟩ := t.full x z
      exact ⟨j, h1, h2, List.mem_append_left _ h3⟩
    · rw [List.mem_singleton.mp z]
      cases S with
      | nil => exact absurd rfl hne
      | cons s S =>
        obtain ⟨j, h1, rfl, h3⟩ := hS s List.mem_cons_self
        refine ⟨j, h1, h3, ?_⟩
        by_cases hin : (e.1, (j : Int)) ∈ E
        · exact List.mem_append_left _ hin
        · exact List.mem_append_right _ (List.mem_map.mpr ⟨_, List.mem_filter.mpr ⟨List.mem_cons_self, by simp [hin]⟩, rfl⟩)
/-- the row of one twin -/
theorem twrow_ok {MA : D} {A : Rows} {ra : List D} {H P : List Int} {R : List D} {p : Int} {k : Int} {d : D} {z7 z8 z9 z10 : Option D} (hb : Box d) (hA : gIx MA (.int 1) = some (.tup ra)) (hrow : atD ra p = some (rowD (rowAt A p))) (hk : atD (H.map D.int) k = some (.int p)) (hrl : (rowAt A p).length ≤ 30)
    (hPl : P.length ≤ 100) (hP : ∀ j : Nat, j < P.length → atD (H.map D.int) (P.getD j 0) = some (.int (hmf H P j))) (hcov : ∀ e ∈ rowAt A p, ∃ j : Nat, j < P.length ∧ hmf H P j = e.2) (hR : R.length ≤ 1000) :
    WP (seqS (asg (lstE []) (tgN 7))
  (seqS (forS (itE (bin gIx (.d (bin gIx (.d (rd 1)) (.d (cst (.int 1))))) (.d (bin gIx (.o 3) (.d (rd 4)))))) (tgT [(tgN 8), (tgN 9)])
  (seqS (asg (lcE [11] (itR rng1 [(.d (callB bLen [(.o 5)]))]) (tgN 11) (tstB (bin gEq (.d (bin gIx (.o 3) (.d (bin gIx (.o 5) (.d (rd 11)))))) (.d (rd 9)))) (rd 11)) (tgN 10))
  (seqS (ifS (tstB (bin gEq (.d (callF f__law_take [(.o 0), (.d (cst (.int 2)))])) (.d (cst (.int 0)))))
  (asg (lstE [(callF f__law_pick [(.o 0), (.d (rd 10))])]) (tgN 10))
  Cr.nx)
  (asg (bin gAddL (.d (rd 7)) (.d (lcE [12] (itE (rd 10)) (tgN 12) (tstB (bin gNi (.d (tupE [(rd 8), (rd 12)])) (.d (rd 7)))) (tupE [(rd 8), (rd 12)])))) (tgN 7)))))
  (appS 6 (callB bTuple [(.d (callB bSortP [(.d (rd 7))]))]))) [some d, some MA, z2, some (.lst (H.map .int)), some (.int k), some (.lst (P.map .int)), some (.lst R), z7, z8, z9, z10, none, none])
  fun f e' => f = .nx ∧ ∃ (E : List Pr) (d' : D) (z7 z8 z9 z10 : Option D), Tw A (hmf H P) P.length (rowAt A p) E ∧ E.length ≤ 3000 ∧ Box d' ∧ e' = [some d', some MA, z2, some (.lst (H.map .int)), some (.int k), some (.lst (P.map .int)), some (.lst (R ++ [rowD (psort E)])), z7, z8, z9, z10, none, none] := by
  refine seq_step (e1 := [some d, some MA, z2, some (.lst (H.map .int)), some (.int k), some (.lst (P.map .int)), some (.lst R), some (.lst []), z8, z9, z10, none, none]) (by simp) ?_
  refine seq_wp (for_nx (ds := (rowAt A p).map prD) (fun t e' => ∃ (E : List Pr) (d' : D) (z8 z9 z10 : Option D), Tw A (hmf H P) P.length ((rowAt A p).take t) E ∧ E.length ≤ t * 100 ∧ Box d' ∧ e' = [some d', some MA, z2, some (.lst (H.map .int)), some (.int k), some (.lst (P.map .int)), some (.lst R), some (.lst (E.map prD)), z8, z9, z10, none, none])
    (e1 := [some d, some MA, z2, some (.lst (H.map .int)), some (.int k), some (.lst (P.map .int)), some (.lst R), some (.lst []), z8, z9, z10, none, none]) (by simp [hA, hk, hrow, rowD]) ⟨[], d, z8, z9, z10, ⟨List.nodup_nil, (fun _ h => absurd h (by simp)), (fun _ h => absurd h (by simp))⟩, by simp, hb, by simp⟩ ?_ ?_)
  · rintro t dt e' ht ⟨E, d1, z8, z9, z10, tw, hEl, B1, rfl⟩
    rw [List.getElem?_map] at ht
    obtain ⟨e, he, rfl⟩ := Option.map_eq_some_iff.mp ht
    have htl := (List.getElem?_eq_some_iff.mp he).1
    have hem := List.mem_of_getElem? he
    have htk : (rowAt A p).take (t + 1) = (rowAt A p).take t ++ [e] := by rw [List.take_succ, he]; rfl
    have hrP : (-1000000 : Int) ≤ P.length ∧ (P.length : Int) ≤ 1000000 := by omega
    refine ⟨[some d1, some MA, z2, some (.lst (H.map .int)), some (.int k), some (.lst (P.map .int)), some (.lst R), some (.lst (E.map prD)), some (.int e.1), some (.int e.2), z10, none, none], by simp [tgT, tgs, prD], ?_⟩
    have hlc := lcR (i := 11) (it := itR rng1 [(.d (callB bLen [(.o 5)]))]) (c := tstB (bin gEq (.d (bin gIx (.o 3) (.d (bin gIx (.o 5) (.d (rd 11)))))) (.d (rd 9)))) (x := rd 11)
      (e := [some d1, some MA, z2, some (.lst (H.map .int)), some (.int k), some (.lst (P.map .int)), some (.lst R), some (.lst (E.map prD)), some (.int e.1), some (.int e.2), z10, none, none]) (n := P.length) (fun j => decide (hmf H P j = e.2)) (fun (j : Nat) => .int j) (by simp) (by simp [hrP]) (by omega) (fun j hj => by
        have h1 := hP j hj
        have h2 : atD (P.map D.int) (j : Int) = some (.int (P.getD j 0)) := by rw [at_nat, List.getElem?_map, List.getElem?_eq_getElem hj, List.getD_eq_getElem?_getD, List.getElem?_eq_getElem hj]; rfl
        have h3 := gEq_int (hmf H P j) e.2
        generalize P.getD j 0 = pj at *
        generalize hmf H P j = hj' at *
        refine ⟨?_, fun _ => by simp⟩
        simp [h1, h2]
        first | done | rfl | (rw [Bool.eq_iff_iff]; simp))
    rw [nats_ints] at hlc
    have hS1 : ∀ s ∈ ((List.range P.length).filter fun j => decide (hmf H P j = e.2)).map fun (a : Nat) => (a : Int), ∃ j : Nat, j < P.length ∧ s = j ∧ hmf H P j = e.2 := fun s hs => by
      obtain ⟨j, hj, rfl⟩ := List.mem_map.mp hs
      obtain ⟨h1, h2⟩ := List.mem_filter.mp hj
      exact ⟨j, List.mem_range.mp h1, rfl, of_decide_eq_true h2⟩
    have hS2 : (((List.range P.length).filter fun j => decide (hmf H P j = e.2)).map fun (a : Nat) => (a : Int)).Nodup := nd_map (fun a _ b _ z => by omega) (List.Nodup.sublist List.filter_sublist List.nodup_range)
    have hS3 : ((List.range P.length).filter fun j => decide (hmf H P j = e.2)).map (fun (a : Nat) => (a : Int)) ≠ [] := by
      obtain ⟨j, hj, h1⟩ := hcov e hem
      exact List.ne_nil_of_mem (List.mem_map.mpr ⟨j, List.mem_filter.mpr ⟨List.mem_range.mpr hj, by simp [h1]⟩, rfl⟩)
    have hS4 : (((List.range P.length).filter fun j => decide (hmf H P j = e.2)).map fun (a : Nat) => (a : Int)).length ≤ 100 := by
      rw [List.length_map]
      exact Nat.le_trans (List.length_filter_le _ _) (by rw [List.length_range]; exact hPl)
    generalize ((List.range P.length).filter fun j => decide (hmf H P j = e.2)).map (fun (a : Nat) => (a : Int)) = S at *
    refine seq_step (e1 := [some d1, some MA, z2, some (.lst (H.map .int)), some (.int k), some (.lst (P.map .int)), some (.lst R), some (.lst (E.map prD)), some (.int e.1), some (.int e.2), some (.lst (S.map .int)), none, none]) (by simp [hlc]) ?_
    obtain ⟨g, d2, ht2, B2, g0, g1⟩ := take_ok d1 2 B1 (by decide) (by decide)
    have hEl2 : E.length ≤ 3000 := by
      have : t * 100 ≤ 30 * 100 := Nat.mul_le_mul_right _ (by omega)
      omega
    have fin : ∀ (S' : List Int) (d3 : D), Box d3 → (∀ s ∈ S', ∃ j : Nat, j < P.length ∧ s = j ∧ hmf H P j = e.2) → S'.Nodup → S' ≠ [] → S'.length ≤ 100 → WP (asg (bin gAddL (.d (rd 7)) (.d (lcE [12] (itE (rd 10)) (tgN 12) (tstB (bin gNi (.d (tupE [(rd 8), (rd 12)])) (.d (rd 7)))) (tupE [(rd 8), (rd 12)])))) (tgN 7)
        [some d3, some MA, z2, some (.lst (H.map .int)), some (.int k), some (.lst (P.map .int)), some (.lst R), some (.lst (E.map prD)), some (.int e.1), some (.int e.2), some (.lst (S'.map .int)), none, none]) fun f e2 => f = .nx ∧ ∃ (E : List Pr) (d' : D) (z8 z9 z10 : Option D), Tw A (hmf H P) P.length ((rowAt A p).take (t + 1)) E ∧ E.length ≤ (t + 1) * 100 ∧ Box d' ∧ e2 = [some d', some MA, z2, some (.lst (H.map .int)), some (.int k), some (.lst (P.map .int)), some (.lst R), some (.lst (E.map prD)), z8, z9, z10, none, none] := fun S' d3 B3 q1 q2 q3 q4 => by
      have hl2 := lcP (vs := [12]) (it := itE (rd 10)) (t := tgN 12) (c := tstB (bin gNi (.d (tupE [(rd 8), (rd 12)])) (.d (rd 7)))) (x := tupE [(rd 8), (rd 12)])
        (e := [some d3, some MA, z2, some (.lst (H.map .int)), some (.int k), some (.lst (P.map .int)), some (.lst R), some (.lst (E.map prD)), some (.int e.1), some (.int e.2), some (.lst (S'.map .int)), none, none]) (ds := S'.map .int) (fun d => match d with | .int s => !decide ((e.1, s) ∈ E) | _ => false) (fun d => match d with | .int s => prD (e.1, s) | _ => .non) (by simp) (by simp; omega) (by
          intro d hd
          obtain ⟨s, _, rfl⟩ := List.mem_map.mp hd
          have hni : gNi (.tup [.int e.1, .int s]) (.lst (E.map prD)) = some (.bl (!decide ((e.1, s) ∈ E))) := gNi_prs (e.1, s) E
          refine ⟨[some d3, some MA, z2, some (.lst (H.map .int)), some (.int k), some (.lst (P.map .int)), some (.lst R), some (.lst (E.map prD)), some (.int e.1), some (.int e.2), some (.lst (S'.map .int)), none, some (.int s)], by simp [wipeE], by simp [wipeE], by simp [hni], fun _ => by simp [prD]⟩)
      have hres : ((S'.map D.int).filter (fun d => match d with | .int s => !decide ((e.1, s) ∈ E) | _ => false)).map (fun d => match d with | .int s => prD (e.1, s) | _ => .non) = ((S'.filter fun s => !decide ((e.1, s) ∈ E)).map fun s => (e.1, s)).map prD := by
        rw [List.filter_map, List.map_map, List.map_map]
        rfl
      rw [hres] at hl2
      have tw2 := tw_step tw q1 q2 q3
      have hlen2 : ((S'.filter fun s => !decide ((e.1, s) ∈ E)).map fun s => (e.1, s)).length ≤ 100 := by
        rw [List.length_map]; exact Nat.le_trans (List.length_filter_le _ _) q4
      rw [← htk] at tw2
      generalize (S'.filter fun s => !decide ((e.1, s) ∈ E)).map (fun s => (e.1, s)) = E2 at *
      refine ⟨.nx, [some d3, some MA, z2, some (.lst (H.map .int)), some (.int k), some (.lst (P.map .int)), some (.lst R), some (.lst ((E ++ E2).map prD)), some (.int e.1), some (.int e.2), some (.lst (S'.map .int)), none, none], ?_, rfl, E ++ E2, d3, _, _, _, tw2, by rw [List.length_append, Nat.add_mul]; omega, B3, rfl⟩
      simp [hl2, show E.length + E2.length ≤ 1000000 by omega]
    by_cases hg : g = 0
    · obtain ⟨r, d3, hp, B3, hr⟩ := pick_ok d2 (S.map .int) B2 (by rw [List.length_map]; exact List.length_pos_iff.mpr hS3) (by rw [List.length_map]; omega)
      obtain ⟨s, hs, rfl⟩ := List.mem_map.mp hr
      refine seq_step (e1 := [some d3, some MA, z2, some (.lst (H.map .int)), some (.int k), some (.lst (P.map .int)), some (.lst R), some (.lst (E.map prD)), some (.int e.1), some (.int e.2), some (.lst ([s].map .int)), none, none]) (by simp [ht2, hg, hp]) (fin [s] d3 B3 (fun x hx => by rw [List.mem_singleton.mp hx]; exact hS1 s hs) (by simp) (by simp) (by simp))
    · refine seq_step (e1 := [some d2, some MA, z2, some (.lst (H.map .int)), some (.int k), some (.lst (P.map .int)), some (.lst R), some (.lst (E.map prD)), some (.int e.1), some (.int e.2), some (.lst (S.map .int)), none, none]) (by simp [ht2, hg]) (fin S d2 B2 hS1 hS2 hS3 hS4)
  · rintro e' ⟨E, d1, z8, z9, z10, tw, hEl, B1, rfl⟩
    refine ⟨rfl, ?_⟩
    rw [List.length_map] at hEl tw
    rw [List.take_length] at tw
    have hsp := s_sortP6 E
    have hEl3 : E.length ≤ 3000 := Nat.le_trans hEl (Nat.mul_le_mul_right 100 hrl)
    exact ⟨.nx, [some d1, some MA, z2, some (.lst (H.map .int)), some (.int k), some (.lst (P.map .int)), some (.lst (R ++ [rowD (psort E)])), some (.lst (E.map prD)), z8, z9, z10, none, none], by simp [hsp, LIM, show R.length < 1000000 by omega, rowD], rfl, E, d1, some (.lst (E.map prD)), z8, z9, z10, tw, hEl3, B1, rfl⟩

/-- the places: all indices, each once, 0 first -/
structure Pls (m : Nat) (P : List Int) : Prop where
  len : P.length = m
  nd : P.Nodup
  mem : ∀ x : Int, x ∈ P ↔ 0 ≤ x ∧ x < m
  hd : P.getD 0 0 = 0
theorem pls_ins {m i : Nat} {P : List Int} (h : Pls m P) (h1 : 1 ≤ i) (h2 : i ≤ m) : Pls (m + 1) (P.take i ++ [(m : Int)] ++ P.drop i) := by
  have hl := h.len
  have hm : (m : Int) ∉ P := fun z => by have := (h.mem _).mp z; omega
  have hperm : (P.take i ++ [(m : Int)] ++ P.drop i).Perm ((m : Int) :: P) := by
    rw [List.append_assoc]
    have := List.perm_middle (a := (m : Int)) (l₁ := P.take i) (l₂ := P.drop i)
    rw [List.take_append_drop] at this
    exact this
  refine ⟨by rw [hperm.length_eq, List.length_cons, hl], hperm.nodup_iff.mpr (List.nodup_cons.mpr ⟨hm, h.nd⟩), fun x => ?_, ?_⟩
  · rw [hperm.mem_iff, List.mem_cons, h.mem]
    omega
  · rw [List.getD_eq_getElem?_getD, List.append_assoc, List.getElem?_append_left (by rw [List.length_take]; omega), List.getElem?_take_of_lt (by omega), ← List.getD_eq_getElem?_getD]
    exact h.hd
theorem pair_count {a b : Nat} {E : List Pr} (hn : E.Nodup) (h : ∀ e ∈ E, (0 ≤ e.1 ∧ e.1 < a) ∧ 0 ≤ e.2 ∧ e.2 < b) : E.length ≤ a * b := by
  have := gr_len (A := List.replicate a []) (B := List.replicate b []) hn fun e he => by
    unfold Gr
    rw [List.length_replicate, List.length_replicate]
    exact h e he
  rwa [List.length_replicate, List.length_replicate] at this
theorem sum_len : ∀ (B : Rows) {m : Nat}, (∀ r ∈ B, r.length ≤ m) → (B.map List.length).sum ≤ B.length * m
  | [], _, _ => by simp
  | r :: B, m, h => by
    have h1 := h r List.mem_cons_self
    have h2 := sum_len B fun x hx => h x (List.mem_cons_of_mem _ hx)
    rw [List.map_cons, List.sum_cons, List.length_cons, Nat.add_mul, Nat.one_mul]
    omega
/-- the machine of the twins -/
theorem twin_mc {n : Nat} {A : Rows} (oa : OkMc n A) {h : Nat → Int} {Es : List (List Pr)} (h1 : 1 ≤ Es.length) (h9 : Es.length ≤ 9) (hh : ∀ j, j < Es.length → 0 ≤ h j ∧ h j < A.length) (hE : ∀ i (hi : i < Es.length), Tw A h Es.length (rowAt A (h i)) Es[i]) (h00 : h 0 = 0) :
    OkMc n (Es.map psort) ∧ BS A (Es.map psort) 0 0 ∧ ∀ r ∈ Es.map psort, r.length ≤ 45 := by
  have n5 := oa.n5
  have hlen : (Es.map psort).length = Es.length := List.length_map ..
  have hrow : ∀ i (hi : i < Es.length), rowAt (Es.map psort) (i : Int) = psort Es[i] := fun i hi => by
    unfold rowAt
    rw [Int.toNat_natCast, List.getD_eq_getElem?_getD, List.getElem?_map, List.getElem?_eq_getElem hi]; rfl
  have hok : ∀ r ∈ Es.map psort, OkRow n Es.length r ∧ r.length ≤ 45 := fun r hr => by
    obtain ⟨E, hEm, rfl⟩ := List.mem_map.mp hr
    obtain ⟨i, hi, rfl⟩ := List.mem_iff_getElem.mp hEm
    have t := hE i hi
    have hb : ∀ e ∈ Es[i], (0 ≤ e.1 ∧ e.1 < n) ∧ 0 ≤ e.2 ∧ e.2 < Es.length := fun e he => by
      obtain ⟨j, h1, h2, h3⟩ := t.sound e he
      have := (row_mem oa h3).1
      exact ⟨this, by omega, by omega⟩
    have hl := pair_count t.nd hb
    have : n * Es.length ≤ 5 * 9 := Nat.mul_le_mul n5 h9
    exact ⟨⟨fun e he => (hb e ((psort_mem _ _).mp he)).1, fun e he => (hb e ((psort_mem _ _).mp he)).2, psort_lt t.nd⟩, by rw [(psort_perm _).length_eq]; omega⟩
  refine ⟨⟨n5, by omega, by omega, ?_, fun r hr => by rw [hlen]; exact (hok r hr).1⟩, ?_, fun r hr => (hok r hr).2⟩
  · have := sum_len (Es.map psort) (m := 45) fun r hr => (hok r hr).2
    rw [hlen] at this
    have : Es.length * 45 ≤ 9 * 45 := Nat.mul_le_mul_right _ h9
    omega
  · have la := oa.l1
    have gr : ∀ (x : Int) (j : Nat), 0 ≤ x → x < A.length → j < Es.length → Gr A (Es.map psort) (x, (j : Int)) := fun x j a b c => by
      unfold Gr
      rw [hlen]
      exact ⟨⟨a, b⟩, by simp, by simp only []; omega⟩
    refine ⟨fun x => Gr A (Es.map psort) x ∧ h x.2.toNat = x.1, fun p q ⟨g, hq⟩ => ?_, fun x hx => hx.1, gr 0 0 (by omega) (by omega) (by omega), h00⟩
    obtain ⟨_, q0, q1⟩ := g
    rw [hlen] at q1
    simp only at q0 q1 hq
    obtain ⟨q, rfl⟩ := Int.eq_ofNat_of_zero_le q0
    rw [Int.toNat_natCast] at hq
    have hql : q < Es.length := by omega
    have t := hE q hql
    rw [hrow q hql, ← hq]
    constructor
    · intro e he
      obtain ⟨j, h1, h2, h3⟩ := t.full e he
      have r := (row_mem oa he).2
      exact ⟨_, (psort_mem _ _).mpr h3, rfl, gr _ _ r.1 r.2 h1, by simpa using h2⟩
    · intro f hf
      obtain ⟨j, h1, h2, h3⟩ := t.sound f ((psort_mem _ _).mp hf)
      have r := hh j h1
      refine ⟨_, h3, rfl, ?_, ?_⟩
      · show Gr A (Es.map psort) (h j, f.2)
        rw [h2]; exact gr _ _ r.1 r.2 h1
      · show h f.2.toNat = h j
        rw [h2]; simp
theorem twinned_run {MA : D} {n : Nat} {A : Rows} {ra : List D} {d : D} (hb : Box d) (oa : OkMc n A) (hA : gIx MA (.int 1) = some (.tup ra)) (hA0 : gIx MA (.int 0) = some (.int n)) (hal : ra.length = A.length) (hA6 : A.length ≤ 6) (hrow : ∀ q : Int, 0 ≤ q → q < A.length → atD ra q = some (rowD (rowAt A q))) (hrl : ∀ q, (rowAt A q).length ≤ 30) :
    ∃ (B : Rows) (d' : D), f__law_twinned [d, MA] = .ok (.tup [.int n, .tup (B.map rowD)]) [d', MA] ∧ Box d' ∧ OkMc n B ∧ BS A B 0 0 ∧ B.length ≤ 9 ∧ ∀ r ∈ B, r.length ≤ 45 := by
  suffices h : ∃ dd r, f__law_twinned [d, MA] = .ok dd r ∧ ∃ (B : Rows) (d' : D), dd = .tup [.int n, .tup (B.map rowD)] ∧ r = [d', MA] ∧ Box d' ∧ OkMc n B ∧ BS A B 0 0 ∧ B.length ≤ 9 ∧ ∀ r ∈ B, r.length ≤ 45 by
    obtain ⟨_, _, h, B, d', rfl, rfl, q⟩ := h
    exact ⟨B, d', h, q⟩
  have la := oa.l1
  have hr1 : (-1000000 : Int) ≤ A.length ∧ (A.length : Int) ≤ 1000000 := by omega
  obtain ⟨c, d1, ht1, B1, c0, c1⟩ := take_ok d 4 hb (by decide) (by decide)
  obtain ⟨c, rfl⟩ := Int.eq_ofNat_of_zero_le c0
  have hrc : (-1000000 : Int) ≤ c ∧ (c : Int) ≤ 1000000 := by omega
  have hrg : rangeD 0 A.length = (((List.range A.length).map fun (a : Nat) => (a : Int)).map D.int) := by simp [rangeD]
  refine fn_wp ?_
  refine seq_step (e1 := [some d, some MA, some (.int A.length), none, none, none, none, none, none, none, none, none, none]) (by simp [hA, hal]) ?_
  refine seq_step (e1 := [some d, some MA, some (.int A.length), some (.lst (((List.range A.length).map fun (a : Nat) => (a : Int)).map .int)), none, none, none, none, none, none, none, none, none]) (by simp [hr1, hrg]) ?_
  refine seq_wp (for_nx (ds := rangeD 0 c) (fun j e' => ∃ (d' : D) (X : List Int) (z4 : Option D), Box d' ∧ X.length = j ∧ (∀ x ∈ X, 0 ≤ x ∧ x < A.length) ∧ e' = [some d', some MA, some (.int A.length), some (.lst ((((List.range A.length).map fun (a : Nat) => (a : Int)) ++ X).map .int)), z4, none, none, none, none, none, none, none, none])
    (e1 := [some d1, some MA, some (.int A.length), some (.lst (((List.range A.length).map fun (a : Nat) => (a : Int)).map .int)), none, none, none, none, none, none, none, none, none]) (by simp [ht1, hrc]) ⟨d1, [], none, B1, rfl, by simp, by simp⟩ ?_ ?_)
  · rintro j dj e' hj ⟨d', X, z4, Bd, hX, hXb, rfl⟩
    have hjl : j < c := by have := (List.getElem?_eq_some_iff.mp hj).1; simpa [rangeD] using this
    obtain ⟨x, d2, ht2, B2, x0, x1⟩ := take_ok d' A.length Bd (by omega) (by omega)
    refine ⟨[some d', some MA, some (.int A.length), some (.lst ((((List.range A.length).map fun (a : Nat) => (a : Int)) ++ X).map .int)), some dj, none, none, none, none, none, none, none, none], by simp, ?_⟩
    have hZ : (((List.range A.length).map fun (a : Nat) => (a : Int)) ++ X).length < 1000000 := by simp; omega
    refine ⟨.nx, [some d2, some MA, some (.int A.length), some (.lst ((((List.range A.length).map fun (a : Nat) => (a : Int)) ++ (X ++ [x])).map .int)), some dj, none, none, none, none, none, none, none, none], ?_, rfl, d2, X ++ [x], some dj, B2, by simp [hX], fun y hy => ?_, rfl⟩
    · rw [← List.append_assoc]
      generalize ((List.range A.length).map fun (a : Nat) => (a : Int)) ++ X = Z at *
      simp [ht2, LIM, hZ]
    · rcases List.mem_append.mp hy with z | z
      · exact hXb y z
      · rw [List.mem_singleton.mp z]; exact ⟨x0, x1⟩
  rintro e' ⟨d2, X, z4, B2, hX, hXb, rfl⟩
  refine ⟨rfl, ?_⟩
  have hXl : X.length ≤ 3 := by have : (rangeD 0 c).length = c := by simp [rangeD]
                                omega
  obtain ⟨H, hH⟩ : ∃ H, ((List.range A.length).map fun (a : Nat) => (a : Int)) ++ X = H := ⟨_, rfl⟩
  rw [hH]
  have hHl : H.length = A.length + X.length := by rw [← hH]; simp
  have hHb : ∀ x ∈ H, 0 ≤ x ∧ x < A.length := fun x hx => by
    rw [← hH] at hx
    rcases List.mem_append.mp hx with z | z
    · obtain ⟨a, ha, rfl⟩ := List.mem_map.mp z
      have := List.mem_range.mp ha
      omega
    · exact hXb x z
  have hHi : ∀ a : Nat, a < A.length → H.getD a 0 = (a : Int) := fun a ha => by
    rw [← hH, List.getD_eq_getElem?_getD, List.getElem?_append_left (by simpa using ha), List.getElem?_map, List.getElem?_range ha]; rfl
  clear hH
  have hHat : ∀ q : Nat, q < H.length → atD (H.map D.int) (q : Int) = some (.int (H.getD q 0)) := fun q hq => by
    rw [at_nat, List.getElem?_map, List.getElem?_eq_getElem hq, List.getD_eq_getElem?_getD, List.getElem?_eq_getElem hq]; rfl
  refine seq_step (e1 := [some d2, some MA, some (.int A.length), some (.lst (H.map .int)), z4, some (.lst ([(0 : Int)].map .int)), none, none, none, none, none, none, none]) (by simp) ?_
  have hr2 : rng2 [.int 1, .int (H.length : Int)] = some (rangeD 1 (H.length - 1)) := by
    unfold rng2
    simp only []
    rw [if_pos (by omega), show ((H.length : Int) - 1).toNat = H.length - 1 by omega]
  refine seq_wp (for_nx (ds := rangeD 1 (H.length - 1)) (fun j e' => ∃ (d' : D) (P : List Int) (z4 : Option D), Box d' ∧ Pls (j + 1) P ∧ e' = [some d', some MA, some (.int A.length), some (.lst (H.map .int)), z4, some (.lst (P.map .int)), none, none, none, none, none, none, none])
    (e1 := [some d2, some MA, some (.int A.length), some (.lst (H.map .int)), z4, some (.lst ([(0 : Int)].map .int)), none, none, none, none, none, none, none]) (by simp [hr2]) ⟨d2, [0], z4, B2, ⟨rfl, by simp, fun x => by simp; omega, rfl⟩, rfl⟩ ?_ ?_)
  · rintro j dj e' hj ⟨d', P, z4, Bd, hP, rfl⟩
    have hjl : j < H.length - 1 := by have := (List.getElem?_eq_some_iff.mp hj).1; simpa [rangeD] using this
    obtain rfl : dj = .int ((j + 1 : Nat) : Int) := by
      have := (List.getElem?_eq_some_iff.mp hj).2
      simp [rangeD] at this
      rw [← this]; exact congrArg D.int (by omega)
    have hPl := hP.len
    obtain ⟨x, d3, ht3, B3, x0, x1⟩ := take_ok d' P.length Bd (by omega) (by omega)
    obtain ⟨x, rfl⟩ := Int.eq_ofNat_of_zero_le x0
    refine ⟨[some d', some MA, some (.int A.length), some (.lst (H.map .int)), some (.int ((j + 1 : Nat) : Int)), some (.lst (P.map .int)), none, none, none, none, none, none, none], by simp, ?_⟩
    have hins := pls_ins (i := 1 + x) hP (by omega) (by omega)
    have htn : ((1 : Int) + x).toNat = 1 + x := by omega
    refine ⟨.nx, [some d3, some MA, some (.int A.length), some (.lst (H.map .int)), some (.int ((j + 1 : Nat) : Int)), some (.lst ((P.take (1 + x) ++ [((j + 1 : Nat) : Int)] ++ P.drop (1 + x)).map .int)), none, none, none, none, none, none, none], ?_, rfl, d3, _, some (.int ((j + 1 : Nat) : Int)), B3, hins, rfl⟩
    rw [List.map_append, List.map_append, List.map_take, List.map_drop]
    simp [ht3, htn, LIM, show P.length < 1000000 by omega, show (0 : Int) ≤ 1 + x by omega, show (1 : Int) + x ≤ 1000000 by omega]
  rintro e' ⟨d3, P, z4', B3, hP, rfl⟩
  refine ⟨rfl, ?_⟩
  have hrl2 : (rangeD 1 (H.length - 1)).length = H.length - 1 := by simp [rangeD]
  rw [hrl2, show H.length - 1 + 1 = H.length by omega] at hP
  have hPl := hP.len
  have hPat : ∀ j : Nat, j < P.length → 0 ≤ P.getD j 0 ∧ P.getD j 0 < H.length := fun j hj => by
    refine (hP.mem _).mp ?_
    rw [List.getD_eq_getElem?_getD, List.getElem?_eq_getElem hj]
    exact List.getElem_mem _
  have hcell : ∀ j : Nat, j < P.length → atD (H.map D.int) (P.getD j 0) = some (.int (hmf H P j)) := fun j hj => by
    obtain ⟨h0, h1⟩ := hPat j hj
    obtain ⟨q, hq⟩ := Int.eq_ofNat_of_zero_le h0
    unfold hmf
    rw [hq, Int.toNat_natCast]
    exact hHat q (by omega)
  have hhb : ∀ j : Nat, j < P.length → 0 ≤ hmf H P j ∧ hmf H P j < A.length := fun j hj => by
    obtain ⟨h0, h1⟩ := hPat j hj
    refine hHb _ ?_
    unfold hmf
    rw [List.getD_eq_getElem?_getD, List.getElem?_eq_getElem (by omega)]
    exact List.getElem_mem _
  have hcov : ∀ x : Int, 0 ≤ x → x < A.length → ∃ j : Nat, j < P.length ∧ hmf H P j = x := fun x h0 h1 => by
    obtain ⟨j, hj⟩ := List.mem_iff_getElem?.mp ((hP.mem x).mpr ⟨h0, by omega⟩)
    refine ⟨j, (List.getElem?_eq_some_iff.mp hj).1, ?_⟩
    unfold hmf
    rw [List.getD_eq_getElem?_getD (l := P), hj]
    show H.getD x.toNat 0 = x
    rw [hHi x.toNat (by omega)]; omega
  refine seq_step (e1 := [some d3, some MA, some (.int A.length), some (.lst (H.map .int)), z4', some (.lst (P.map .int)), some (.lst []), none, none, none, none, none, none]) (by simp) ?_
  refine seq_wp (loopO_nx (xs := P.map .int) (fun k e' => ∃ (Es : List (List Pr)) (d' : D) (z4 z7 z8 z9 z10 : Option D), Box d' ∧ Es.length = k ∧ (∀ i (hi : i < Es.length), Tw A (hmf H P) P.length (rowAt A (hmf H P i)) Es[i]) ∧ e' = [some d', some MA, some (.int A.length), some (.lst (H.map .int)), z4, some (.lst (P.map .int)), some (.lst ((Es.map psort).map rowD)), z7, z8, z9, z10, none, none])
    (by rintro k e ⟨Es, d', z4, z7, z8, z9, z10, _, _, _, rfl⟩; rfl) ?_ ?_ 1000000 0 _ (Nat.zero_le _) (by rw [List.length_map]; omega) ⟨[], d3, z4', none, none, none, none, B3, rfl, (fun i hi => absurd hi (by simp)), rfl⟩)
  · rintro k dk e' hk ⟨Es, d', z4, z7, z8, z9, z10, Bd, hEl, hE, rfl⟩
    rw [List.getElem?_map] at hk
    obtain ⟨pk, hpk, rfl⟩ := Option.map_eq_some_iff.mp hk
    have hkl := (List.getElem?_eq_some_iff.mp hpk).1
    have hpk' : P.getD k 0 = pk := by rw [List.getD_eq_getElem?_getD, hpk]; rfl
    have hc1 := hcell k hkl
    rw [hpk'] at hc1
    have hb1 := hhb k hkl
    refine ⟨[some d', some MA, some (.int A.length), some (.lst (H.map .int)), some (.int pk), some (.lst (P.map .int)), some (.lst ((Es.map psort).map rowD)), z7, z8, z9, z10, none, none], by simp, ?_⟩
    obtain ⟨fl, e2, hw, rfl, E, d4, y7, y8, y9, y10, tw, hEl2, B4, rfl⟩ := twrow_ok (z2 := some (.int A.length)) (R := (Es.map psort).map rowD) (z7 := z7) (z8 := z8) (z9 := z9) (z10 := z10) Bd hA (hrow _ hb1.1 hb1.2) hc1 (hrl _) (by omega) hcell (fun e he => by have := (row_mem oa he).2; exact hcov _ this.1 this.2) (by rw [List.length_map, List.length_map]; omega)
    refine ⟨.nx, _, hw, rfl, Es ++ [E], d4, some (.int pk), y7, y8, y9, y10, B4, by simp [hEl], fun i hi => ?_, by simp⟩
    by_cases hik : i < Es.length
    · rw [List.getElem_append_left hik]; exact hE i hik
    · have : i = k := by simp at hi; omega
      subst this
      rw [List.getElem_append_right (by omega)]
      simpa using tw
  · rintro e' ⟨Es, d4, z4, z7, z8, z9, z10, B4, hEl, hE, rfl⟩
    rw [List.length_map] at hEl
    refine ⟨rfl, ?_⟩
    obtain ⟨okB, bs, hrl9⟩ := twin_mc (h := hmf H P) oa (Es := Es) (by omega) (by omega) (fun j hj => hhb j (by omega)) (fun i hi => by rw [hEl]; exact hE i hi) (by
      unfold hmf
      rw [hP.hd]
      exact hHi 0 (by omega))
    have hBl : (Es.map psort).length ≤ 9 := by rw [List.length_map]; omega
    generalize Es.map psort = B at *
    exact ⟨.rt (.tup [.int n, .tup (B.map rowD)]), [some d4, some MA, some (.int A.length), some (.lst (H.map .int)), z4, some (.lst (P.map .int)), some (.lst (B.map rowD)), z7, z8, z9, z10, none, none], by simp [hA0], _, _, rfl, rfl, B, d4, rfl, rfl, B4, okB, bs, hBl, hrl9⟩

/-! ### a machine, turned -/
theorem seq_if_e {t : M Bool} {a b r : S} {e e1 : Sl} {Q : Fl → Sl → Prop} (h : t e = .ok false e1) (q : WP (seqS b r e1) Q) : WP (seqS (ifS t a b) r e) Q := by
  have h1 : ifS t a b e = b e1 := by unfold ifS; rw [bd_ok h]; rfl
  have h2 : seqS (ifS t a b) r e = seqS b r e1 := by unfold seqS bd; rw [h1]
  rw [h2]; exact q
theorem turned_run {MA : D} {n : Nat} {A : Rows} {d : D} (hb : Box d) (oa : OkMc n A) (hA : gIx MA (.int 1) = some (.tup (A.map rowD))) (hA0 : gIx MA (.int 0) = some (.int n)) (hA9 : A.length ≤ 9) (hrl : ∀ r ∈ A, r.length ≤ 45) :
    ∃ (B : Rows) (d' : D), f__law_turned [d, MA] = .ok (.tup [.int n, .tup (B.map rowD)]) [d', MA] ∧ Box d' ∧ OkMc n B ∧ B.length = A.length ∧ ∀ r ∈ B, r.length ≤ 45 := by
  suffices h : ∃ dd r, f__law_turned [d, MA] = .ok dd r ∧ ∃ (B : Rows) (d' : D), dd = .tup [.int n, .tup (B.map rowD)] ∧ r = [d', MA] ∧ Box d' ∧ OkMc n B ∧ B.length = A.length ∧ ∀ r ∈ B, r.length ≤ 45 by
    obtain ⟨_, _, h, B, d', rfl, rfl, q⟩ := h
    exact ⟨B, d', h, q⟩
  have la := oa.l1
  have n5 := oa.n5
  obtain ⟨at_, d1, ht1, B1, a0, a1⟩ := take_ok d A.length hb (by omega) (by omega)
  obtain ⟨k, rfl⟩ := Int.eq_ofNat_of_zero_le a0
  have hkl : k < A.length := by omega
  have hcell := (row_data (n := n) (A := A) ⟨a0, a1⟩).2
  have hrm : rowAt A (k : Int) ∈ A := by
    unfold rowAt
    rw [Int.toNat_natCast, List.getD_eq_getElem?_getD, List.getElem?_eq_getElem hkl]
    exact List.getElem_mem _
  have hrow := oa.row _ hrm
  have hrl0 := hrl _ hrm
  obtain ⟨row, hrowE⟩ : ∃ row, rowAt A (k : Int) = row := ⟨_, rfl⟩
  rw [hrowE] at hcell hrow hrl0
  refine fn_wp ?_
  refine seq_step (e1 := [some d1, some MA, some (.int k), none, none]) (by simp [hA, ht1]) ?_
  refine seq_step (e1 := [some d1, some MA, some (.int k), some (.tup (row.map prD)), none]) (by simp [hA, hcell, rowD]) ?_
  have fin : ∀ (row' : List Pr) (d3 : D) (z4 : Option D), Box d3 → OkRow n A.length row' → row'.length ≤ 45 → WP ((retS (tupE [(bin gIx (.d (rd 1)) (.d (cst (.int 0)))), (bin Cr.gAdd (.d (bin Cr.gAdd (.d (slE (.d (bin gIx (.d (rd 1)) (.d (cst (.int 1))))) none (some (rd 2)))) (.d (tupE [(rd 3)])))) (.d (slE (.d (bin gIx (.d (rd 1)) (.d (cst (.int 1))))) (some (bin Cr.gAdd (.d (rd 2)) (.d (cst (.int 1))))) none)))]))
      [some d3, some MA, some (.int k), some (.tup (row'.map prD)), z4]) fun f e => ∃ dd r, f = .rt dd ∧ finM [true, false] [d, MA] e = some r ∧ ∃ (B : Rows) (d' : D), dd = .tup [.int n, .tup (B.map rowD)] ∧ r = [d', MA] ∧ Box d' ∧ OkMc n B ∧ B.length = A.length ∧ ∀ r ∈ B, r.length ≤ 45 := by
    intro row' d3 z4 B3 ok' l'
    have hlen : (A.take k ++ [row'] ++ A.drop (k + 1)).length = A.length := by simp; omega
    have hmem : ∀ r ∈ A.take k ++ [row'] ++ A.drop (k + 1), OkRow n A.length r ∧ r.length ≤ 45 := fun r hr => by
      rcases List.mem_append.mp hr with z | z
      · rcases List.mem_append.mp z with z | z
        · have := List.mem_of_mem_take z
          exact ⟨oa.row r this, hrl r this⟩
        · rw [List.mem_singleton.mp z]; exact ⟨ok', l'⟩
      · have := List.mem_of_mem_drop z
        exact ⟨oa.row r this, hrl r this⟩
    have hok : OkMc n (A.take k ++ [row'] ++ A.drop (k + 1)) := by
      refine ⟨n5, by rw [hlen]; exact la, by rw [hlen]; omega, ?_, fun r hr => by rw [hlen]; exact (hmem r hr).1⟩
      have := sum_len (A.take k ++ [row'] ++ A.drop (k + 1)) (m := 45) fun r hr => (hmem r hr).2
      rw [hlen] at this
      omega
    refine ⟨.rt (.tup [.int n, .tup ((A.take k ++ [row'] ++ A.drop (k + 1)).map rowD)]), [some d3, some MA, some (.int k), some (.tup (row'.map prD)), z4], ?_, _, _, rfl, rfl, _, d3, rfl, rfl, B3, hok, hlen, fun r hr => (hmem r hr).2⟩
    have c1 := cut_to (A.map rowD) k
    have c2 : cutD (A.map rowD) (some ((k : Int) + 1)) none = (A.map rowD).drop (k + 1) := cut_from (A.map rowD) (k + 1)
    have c3 : (A.take k ++ [row'] ++ A.drop (k + 1)).map rowD = (A.map rowD).take k ++ [.tup (row'.map prD)] ++ (A.map rowD).drop (k + 1) := by
      rw [List.map_append, List.map_append, List.map_take, List.map_drop]; rfl
    have c4 : (A.map rowD).length ≤ 9 := by rw [List.length_map]; exact hA9
    rw [c3]
    generalize A.map rowD = ra at *
    generalize row'.map prD = W at *
    have t1 : (ra.take k).length ≤ 9 := by rw [List.length_take]; omega
    have t2 : (ra.drop (k + 1)).length ≤ 9 := by rw [List.length_drop]; omega
    generalize ra.take k = X at *
    generalize ra.drop (k + 1) = Y at *
    simp [hA, hA0, c1, c2, show X.length + 1 ≤ 1000000 by omega, show X.length + 1 + Y.length ≤ 1000000 by omega]
  have fin0 := fin row d1 none B1 hrow hrl0
  have fin1 : ∀ (d3 : D), Box d3 → WP ((seqS (ifS (tstB (bin gGt (.d (bin gIx (.d (rd 1)) (.d (cst (.int 0))))) (.d (cst (.int 0)))))
      (asg (callB bTuple [(.d (callB bSetP [(.d (bin gAddL (.d (callB bList [(.d (rd 3))])) (.d (lstE [(tupE [(callF f__law_take [(.o 0), (.d (bin gIx (.d (rd 1)) (.d (cst (.int 0)))))]), (callF f__law_take [(.o 0), (.d (callB bLen [(.d (bin gIx (.d (rd 1)) (.d (cst (.int 1)))))]))])])]))))]))]) (tgN 3))
      Cr.nx) (retS (tupE [(bin gIx (.d (rd 1)) (.d (cst (.int 0)))), (bin Cr.gAdd (.d (bin Cr.gAdd (.d (slE (.d (bin gIx (.d (rd 1)) (.d (cst (.int 1))))) none (some (rd 2)))) (.d (tupE [(rd 3)])))) (.d (slE (.d (bin gIx (.d (rd 1)) (.d (cst (.int 1))))) (some (bin Cr.gAdd (.d (rd 2)) (.d (cst (.int 1))))) none)))])))
      [some d3, some MA, some (.int k), some (.tup (row.map prD)), none]) fun f e => ∃ dd r, f = .rt dd ∧ finM [true, false] [d, MA] e = some r ∧ ∃ (B : Rows) (d' : D), dd = .tup [.int n, .tup (B.map rowD)] ∧ r = [d', MA] ∧ Box d' ∧ OkMc n B ∧ B.length = A.length ∧ ∀ r ∈ B, r.length ≤ 45 := by
    intro d3 B3
    by_cases hn : 0 < n
    · obtain ⟨x, d4, ht4, B4, x0, x1⟩ := take_ok d3 n B3 (by omega) (by omega)
      obtain ⟨y, d5, ht5, B5, y0, y1⟩ := take_ok d4 A.length B4 (by omega) (by omega)
      have hub : ∀ e ∈ row ++ [(x, y)], (0 ≤ e.1 ∧ e.1 < n) ∧ 0 ≤ e.2 ∧ e.2 < A.length := fun e he => by
        rcases List.mem_append.mp he with z | z
        · exact ⟨hrow.let_ e z, hrow.to e z⟩
        · rw [List.mem_singleton.mp z]; exact ⟨⟨x0, x1⟩, y0, y1⟩
      have hub' : ∀ e ∈ usortP (row ++ [(x, y)]), (0 ≤ e.1 ∧ e.1 < n) ∧ 0 ≤ e.2 ∧ e.2 < A.length := fun e he => hub e (usortP_mem.mp he)
      have hl' := pair_count (usortP_nd _) hub'
      have h59 : n * A.length ≤ 5 * 9 := Nat.mul_le_mul n5 hA9
      have hset : bSetP [.lst (row.map prD ++ [.tup [.int x, .int y]])] = some (.lst ((usortP (row ++ [(x, y)])).map prD)) := by
        have e1 : row.map prD ++ [.tup [.int x, .int y]] = (row ++ [(x, y)]).map prD := by rw [List.map_append]; rfl
        rw [e1]
        unfold bSetP
        simp only [prsD_map]
        rw [if_pos ⟨by rw [List.length_append, List.length_singleton]; omega, fun p hp => by have := hub p hp; omega⟩]
      have ok' : OkRow n A.length (usortP (row ++ [(x, y)])) := ⟨fun e he => (hub' e he).1, fun e he => (hub' e he).2, psort_lt (dedP_nd _)⟩
      have f2 := fin _ d5 none B5 ok' (by omega)
      have hrl1 : (row.map prD).length ≤ 45 := by rw [List.length_map]; exact hrl0
      generalize row.map prD = W at *
      generalize (usortP (row ++ [(x, y)])).map prD = W2 at *
      refine seq_step (e1 := [some d5, some MA, some (.int k), some (.tup W2), none]) ?_ f2
      simp [hA, hA0, ht4, ht5, hset, hn, show W.length + 1 ≤ 1000000 by omega]
    · refine seq_step (e1 := [some d3, some MA, some (.int k), some (.tup (row.map prD)), none]) ?_ (fin row d3 none B3 hrow hrl0)
      simp [hA0, hn]
  by_cases hr : row = []
  · exact seq_if_e (e1 := [some d1, some MA, some (.int k), some (.tup (row.map prD)), none]) (by simp [hr]) (fin1 d1 B1)
  · obtain ⟨g, d2, ht2, B2, g0, g1⟩ := take_ok d1 2 B1 (by decide) (by decide)
    have hemp : (row.map prD).isEmpty = false := by cases row with
      | nil => exact absurd rfl hr
      | cons _ _ => rfl
    by_cases hg : g = 0
    · have hpos := List.length_pos_iff.mpr hr
      obtain ⟨j, d3, ht3, B3, j0, j1⟩ := take_ok d2 row.length B2 (by omega) (by omega)
      obtain ⟨j, rfl⟩ := Int.eq_ofNat_of_zero_le j0
      have hsub : (row.take j ++ row.drop (j + 1)).Sublist row := by
        have := List.eraseIdx_sublist (l := row) (k := j)
        rwa [List.eraseIdx_eq_take_drop_succ] at this
      have ok' : OkRow n A.length (row.take j ++ row.drop (j + 1)) := ⟨fun e he => hrow.let_ e (hsub.subset he), fun e he => hrow.to e (hsub.subset he), hrow.up.sublist hsub⟩
      have f2 := fin _ d3 (some (.int j)) B3 ok' (Nat.le_trans hsub.length_le hrl0)
      have c1 := cut_to (row.map prD) j
      have c2 : cutD (row.map prD) (some ((j : Int) + 1)) none = (row.map prD).drop (j + 1) := cut_from (row.map prD) (j + 1)
      rw [List.map_append, List.map_take, List.map_drop] at f2
      have t0 : (row.map prD).length = row.length := List.length_map ..
      rw [← t0] at ht3 hrl0
      generalize row.map prD = W at *
      have t1 : (W.take j).length ≤ 45 := by rw [List.length_take]; omega
      have t2 : (W.drop (j + 1)).length ≤ 45 := by rw [List.length_drop]; omega
      generalize W.take j = X at *
      generalize W.drop (j + 1) = Y at *
      refine seq_step (e1 := [some d3, some MA, some (.int k), some (.tup (X ++ Y)), some (.int j)]) ?_ f2
      simp [hemp, ht2, hg, ht3, c1, c2, show X.length + Y.length ≤ 1000000 by omega]
    · exact seq_if_e (e1 := [some d2, some MA, some (.int k), some (.tup (row.map prD)), none]) (by
        generalize row.map prD = W at *
        simp [hemp, ht2, hg]) (fin1 d2 B2)

/-! ### k06: the law -/
theorem law_run {s d0 d1 d2 d3 d4 d5 d6 d7 N MA MO MC MP MT : D} {b : Bool} (hbox : f__law_box [s] = .ok d0 [s]) (ht1 : f__law_take [d0, .int 6] = .ok N [d1, .int 6]) (hm1 : f__law_machine [d1, N, .int 5] = .ok MA [d2, N, .int 5]) (htw : f__law_twinned [d2, MA] = .ok MO [d3, MA])
    (h1 : f_alike [MA, MO] = .ok (.bl true) [MA, MO]) (h2 : f_alike [MO, MA] = .ok (.bl true) [MO, MA]) (h3 : f_alike [MA, MA] = .ok (.bl true) [MA, MA]) (hm2 : f__law_machine [d3, N, .int 5] = .ok MC [d4, N, .int 5]) (hp : f__law_pick [d4, .lst [MA, MO, MC]] = .ok MP [d5, .lst [MA, MO, MC]])
    (htn : f__law_turned [d5, MP] = .ok MT [d6, MP]) (hla : f__law_alike [MA, MT] = .ok (.bl b) [MA, MT]) (h4 : f_alike [MA, MT] = .ok (.bl b) [MA, MT]) (h5 : f_alike [MT, MA] = .ok (.bl b) [MT, MA]) (hr : f__law_rings [d6] = .ok (.bl true) [d7]) :
    f_law [s] = .ok (.bl true) [s] := by
  suffices h : ∃ dd r, f_law [s] = .ok dd r ∧ dd = .bl true ∧ r = [s] by
    obtain ⟨_, _, h, rfl, rfl⟩ := h
    exact h
  refine fn_wp ?_
  refine seq_step (e1 := [some s, some d0, none, none, none, none, none]) (by simp [hbox]) ?_
  refine seq_step (e1 := [some s, some d1, some N, none, none, none, none]) (by simp [ht1]) ?_
  refine seq_step (e1 := [some s, some d2, some N, some MA, none, none, none]) (by simp [hm1]) ?_
  refine seq_step (e1 := [some s, some d3, some N, some MA, some MO, none, none]) (by simp [htw]) ?_
  refine seq_if_f (e1 := [some s, some d3, some N, some MA, some MO, none, none]) (by simp [h1, h2, h3, gNoB]) ?_
  refine seq_step (e1 := [some s, some d6, some N, some MA, some MO, some MT, none]) (by simp [hm2, hp, htn]) ?_
  refine seq_step (e1 := [some s, some d6, some N, some MA, some MO, some MT, some (.bl b)]) (by simp [hla]) ?_
  have hrp : rpOk (.bl b) = true := by cases b <;> decide +kernel
  have r1 : reprC false (.d (callF f_alike [(.d (rd 3)), (.d (rd 5))])) (.d (rd 6)) [some s, some d6, some N, some MA, some MO, some MT, some (.bl b)] = .ok (.bl true) [some s, some d6, some N, some MA, some MO, some MT, some (.bl b)] :=
    repr_same (d := .bl b) (e1 := [some s, some d6, some N, some MA, some MO, some MT, some (.bl b)]) (by simp [h4]) (by simp) hrp
  have r2 : reprC false (.d (callF f_alike [(.d (rd 5)), (.d (rd 3))])) (.d (rd 6)) [some s, some d6, some N, some MA, some MO, some MT, some (.bl b)] = .ok (.bl true) [some s, some d6, some N, some MA, some MO, some MT, some (.bl b)] :=
    repr_same (d := .bl b) (e1 := [some s, some d6, some N, some MA, some MO, some MT, some (.bl b)]) (by simp [h5]) (by simp) hrp
  exact ⟨.rt (.bl true), [some s, some d7, some N, some MA, some MO, some MT, some (.bl b)], by simp [r1, r2, hr], _, _, rfl, rfl, rfl, rfl⟩
theorem law_true (ns : List Int) (hl : ns.length ≤ 63) : ∃ ds, f_law [.lst (ns.map .int)] = .ok (.bl true) ds := by
  obtain ⟨d0, hbox, B0⟩ := box_ok ns hl
  obtain ⟨n, d1, ht1, B1, n0, n1⟩ := take_ok d0 6 B0 (by decide) (by decide)
  obtain ⟨n, rfl⟩ := Int.eq_ofNat_of_zero_le n0
  obtain ⟨A, d2, hm1, B2, oa, la, ra⟩ := machine_draw d1 B1 (show n ≤ 5 by omega) (most := 5) (by decide) (by decide)
  have la' : A.length ≤ 5 := by omega
  have hral : ∀ q, (rowAt A q).length ≤ 30 := fun q => by
    unfold rowAt
    rw [List.getD_eq_getElem?_getD]
    cases hq : A[q.toNat]? with
    | none => simp
    | some r => have := ra r (List.mem_of_getElem? hq); simp; omega
  obtain ⟨B, d3, htw, B3, ob, bs, lb, rb⟩ := twinned_run (MA := mcD n A) (n := n) (ra := A.map rowD) B2 oa rfl rfl (List.length_map ..) (by omega) (fun q q0 q1 => (row_data (n := n) ⟨q0, q1⟩).2) hral
  obtain ⟨C, d4, hm2, B4, oc, lc, rc⟩ := machine_draw d3 B3 (show n ≤ 5 by omega) (most := 5) (by decide) (by decide)
  obtain ⟨r, d5, hp, B5, hrm⟩ := pick_ok d4 [mcD n A, mcD n B, mcD n C] B4 (by simp) (by simp)
  have hP : ∃ P, r = mcD n P ∧ OkMc n P ∧ P.length ≤ 9 ∧ ∀ r ∈ P, r.length ≤ 45 := by
    simp only [List.mem_cons, List.not_mem_nil, or_false] at hrm
    rcases hrm with z | z | z
    · exact ⟨A, z, oa, by omega, fun r hr => by have := ra r hr; omega⟩
    · exact ⟨B, z, ob, lb, rb⟩
    · exact ⟨C, z, oc, by omega, fun r hr => by have := rc r hr; omega⟩
  obtain ⟨P, rfl, op, lp, rp'⟩ := hP
  obtain ⟨T, d6, htn, B6, ot, lt, rt⟩ := turned_run (MA := mcD n P) (n := n) (A := P) B5 op rfl rfl lp rp'
  obtain ⟨d7, hr, B7⟩ := rings_ok d6 B6
  obtain ⟨b1, h1, k1⟩ := alike_ok oa ob (by omega)
  obtain ⟨b2, h2, k2⟩ := alike_ok ob oa (by omega)
  obtain ⟨b3, h3, k3⟩ := alike_ok oa oa (by omega)
  obtain ⟨b4, h4, k4⟩ := alike_ok oa ot (by omega)
  obtain ⟨b5, h5, k5⟩ := alike_ok ot oa (by omega)
  obtain ⟨b6, h6, k6⟩ := lalike_ok oa ot (fun r hr => by have := ra r hr; omega) (fun r hr => by have := rt r hr; omega) (by
    have : A.length * T.length ≤ 5 * 9 := Nat.mul_le_mul la' (by omega)
    omega)
  obtain rfl : b1 = true := k1.mpr bs
  obtain rfl : b2 = true := k2.mpr bs.symm
  obtain rfl : b3 = true := k3.mpr (BS.refl oa)
  obtain rfl : b4 = b6 := by rw [Bool.eq_iff_iff, k4, k6]
  obtain rfl : b5 = b4 := by
    rw [Bool.eq_iff_iff, k5, k4]
    exact ⟨fun h => h.symm, fun h => h.symm⟩
  exact ⟨_, law_run hbox ht1 hm1 htw h1 h2 h3 hm2 hp htn h6 h4 h5 hr⟩

end G
end
theorem PySem.Challenge.cw_spandrel_k06_machines_that_are_alike_holds : PySem.Challenge.rw_spandrel_k06_machines_that_are_alike.Holds := by
  exact G.law_end G.law_true
