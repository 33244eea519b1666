import PyProof.Rows.All
import PySem.PyData
import PyProof.Claim2
import HandS.List
import Wide.All
import OpenK.AllK
import Wide.FinOn
import HandS.ForMost
import HandS.TupMul
import HandS.TupAny
import HandS.Style
import HandS.SetFor
import HandS.TupSets
import KE.SortData
import HandS.Zip
import HandS.ForExc
import HandS.IsInst
import HandS.ExcIs
import HandS.ExcValue
import HandS.TupLe
import HandS.Conv
import HandS.Deep
import HandS.Walk
import HandS.Small
import HandS.SortInts
import HandS.HeadHook1
import HandS.Text
import HandS.Call
import PyProof.StrLawsChain
import PyProof.StrLawsTight
import PyProof.Rows.StrItems
import PyProof.Rows.StrFin3
import HandS.Steps
import KE.DatumOrd
import HandS.SortKw
import HandS.HotCalls
import HandS.Evl
import HandS.Comp
import HandS.Exc
import KE.GoesComp
import KE.KAsSuite
import KE.GoesRaise
import HandS.Zip0
import HandS.RaiseMore
import HandS.TryOnly
import HandS.ExcCtx
import HandS.WordsExc
import HandS.ExcOwn
import PyProof.ExcBaseAll.ValueError
import HandS.Defaults
import HandS.HeadHook2
import HandS.HeadEnd
import KE.KStateDown
import HandS.Head0
import HandS.Head1
import HandS.Head2
import PySem.Challenge.RW_ladderhall_k02_order
set_option Elab.async false
set_option linter.all false
set_option maxRecDepth 100000
set_option maxHeartbeats 0
namespace LhEnd
open PySem PySem.Spec PyProof.Rows L2
def top (i : Nat) : Stmt := PySem.Challenge.pw_ladderhall_k02_order.main.body.getD i (.Pass ⟨0, 0, 0, 0⟩)
def fn : List He.DefD := [⟨("least_of", none), "least_of", "least_of", defArgs (top 1), defBody (top 1), defScope (top 1), [], []⟩, ⟨("joined_all", none), "joined_all", "joined_all", defArgs (top 2), defBody (top 2), defScope (top 2), [], []⟩, ⟨("greatest_of", none), "greatest_of", "greatest_of", defArgs (top 3), defBody (top 3), defScope (top 3), [], []⟩, ⟨("is_below", none), "is_below", "is_below", defArgs (top 4), defBody (top 4), defScope (top 4), [], []⟩, ⟨("below", none), "below", "below", defArgs (top 5), defBody (top 5), defScope (top 5), [], []⟩, ⟨("_law_cell", none), "_law_cell", "_law_cell", defArgs (top 7), defBody (top 7), defScope (top 7), [], []⟩, ⟨("_law_pick", none), "_law_pick", "_law_pick", defArgs (top 8), defBody (top 8), defScope (top 8), [], []⟩, ⟨("_law_chain", none), "_law_chain", "_law_chain", defArgs (top 9), defBody (top 9), defScope (top 9), [], []⟩, ⟨("_law_couples", none), "_law_couples", "_law_couples", defArgs (top 10), defBody (top 10), defScope (top 10), [], []⟩, ⟨("_law_side_by_side", none), "_law_side_by_side", "_law_side_by_side", defArgs (top 11), defBody (top 11), defScope (top 11), [], []⟩, ⟨("_law_base", none), "_law_base", "_law_base", defArgs (top 12), defBody (top 12), defScope (top 12), [], []⟩, ⟨("_law_ladder", none), "_law_ladder", "_law_ladder", defArgs (top 13), defBody (top 13), defScope (top 13), [], []⟩, ⟨("_law_low", none), "_law_low", "_law_low", defArgs (top 14), defBody (top 14), defScope (top 14), [], []⟩, ⟨("_law_join", none), "_law_join", "_law_join", defArgs (top 15), defBody (top 15), defScope (top 15), [], []⟩, ⟨("_law_under", none), "_law_under", "_law_under", defArgs (top 16), defBody (top 16), defScope (top 16), [], []⟩, ⟨("law", none), "law", "law", defArgs (top 17), defBody (top 17), defScope (top 17), [], []⟩]
def fa : List He.Fa := [.glo "least_of", .glo "joined_all", .glo "greatest_of", .glo "is_below", .glo "below", .glo "_law_cell", .glo "_law_pick", .glo "_law_chain", .glo "_law_couples", .glo "_law_side_by_side", .glo "_law_base", .glo "_law_ladder", .glo "_law_low", .glo "_law_join", .glo "_law_under", .glo "law", .free "len", .free "list", .free "tuple", .free "all", .free "any", .free "max", .free "min", .free "sorted", .free "int", .free "isinstance", .free "range", .free "enumerate", .free "zip", .free "bool", .free "ValueError", .free "set", .free "str", .free "dict"]
abbrev R : PySem.W.OpenRow := PySem.W.OpenLaw.row PySem.Challenge.rw_ladderhall_k02_order
abbrev hk : PySem.W.Hook := He.hookD 4 fa fn
def ob (s : PySem.W.SharedT) : He.AlD := He.obsDG 4 fa fn (HandSHeadRun.getT s)
theorem ob_eq (s : PySem.W.SharedT) : ob s = hk.obs s.abs := He.obsDG_eq (HandSHeadRun.getT_eq s)
def loose : List Str := (["least_of", "joined_all", "greatest_of", "is_below", "below", "_law_cell", "_law_pick", "_law_chain", "_law_couples", "_law_side_by_side", "_law_base", "_law_ladder", "_law_low", "_law_join", "_law_under"] : List Str)
theorem run (w : World) : HandSHeadRun.RunEq R (PySem.W.view R.prog [17]) hk ob 1480 loose w := by
  intro os
  kernel_rfl
end LhEnd
set_option Elab.async false
set_option linter.all false
namespace Lh
open PySem (Str)
/-- a value, lists and tuples by what they hold; scr: the script; exc: an exception by its class -/
inductive Val where
  | non | bool (b : Bool) | int (i : Int) | str (s : Str)
  | tup (xs : List Val) | lst (xs : List Val) | scr (xs : List Val) | dct (k : Bool) (ks vs : List Val) | exc (c : Str) | obj (nm : List Str) (fs : List Val)
inductive Res (α : Type) where
  | ok (a : α) | exc (c : Str) | stuck
def Res.bind {α β : Type} (r : Res α) (f : α → Res β) : Res β := match r with
  | .ok a => f a
  | .exc c => .exc c
  | .stuck => .stuck
@[simp] theorem Res.bind_ok {α β : Type} (a : α) (f : α → Res β) : (Res.ok a).bind f = f a := rfl
@[simp] theorem Res.bind_exc {α β : Type} (c : Str) (f : α → Res β) : (Res.exc c).bind f = .exc c := rfl
@[simp] theorem Res.bind_stuck {α β : Type} (f : α → Res β) : (Res.stuck : Res α).bind f = .stuck := rfl
/-- the most items that a list or a tuple of ours has -/
def cap : Nat := 100000
mutual
/-- python's == -/
def Val.eqv : Val → Val → Bool
  | .non, .non => true
  | .bool a, .bool b => a == b
  | .bool a, .int b => (if a then 1 else 0) == b
  | .int a, .bool b => a == (if b then 1 else 0)
  | .int a, .int b => a == b
  | .str a, .str b => a == b
  | .tup a, .tup b => Val.eqvs a b
  | .lst a, .lst b => Val.eqvs a b
  | .scr a, .lst b => Val.eqvs a b
  | .lst a, .scr b => Val.eqvs a b
  | .scr a, .scr b => Val.eqvs a b
  | _, _ => false
termination_by structural x => x
def Val.eqvs : List Val → List Val → Bool
  | [], [] => true
  | x :: xs, y :: ys => Val.eqv x y && Val.eqvs xs ys
  | _, _ => false
termination_by structural x => x
end
/-- may be compared: data, so deep at most, texts without surrogates -/
def Val.lay : Nat → Val → Bool
  | _, .non => true
  | _, .bool _ => true
  | _, .int _ => true
  | _, .str s => PySem.PyData.strOk s
  | n + 1, .tup xs => xs.all (Val.lay n)
  | n + 1, .lst xs => xs.all (Val.lay n)
  | n + 1, .scr xs => xs.all (Val.lay n)
  | _, _ => false
mutual
/-- no list, no dict in it -/
def Val.pure : Val → Bool
  | .non => true
  | .bool _ => true
  | .int _ => true
  | .str _ => true
  | .tup xs => Val.pures xs
  | _ => false
def Val.pures : List Val → Bool
  | [] => true
  | x :: xs => Val.pure x && Val.pures xs
end
def Val.flat : Val → Bool
  | .non => true
  | .bool _ => true
  | .int _ => true
  | .str _ => true
  | _ => false
open L2 (ixN atI)
open HT (sIx)
def cut {α : Type} (xs : List α) (lo hi : Option Int) : List α := (xs.drop (sIx xs.length 0 lo)).take (sIx xs.length xs.length hi - sIx xs.length 0 lo)
inductive Bop where | add | sub | mul | fdiv | mod | pow
inductive Cop where | lt | le | gt | ge | eq | ne | isin | notin | is | isnot
def small64 (i : Int) : Bool := decide (-(2 ^ 64) < i) && decide (i < 2 ^ 64)
def binV : Bop → Val → Val → Res Val
  | .add, .int a, .int b => .ok (.int (a + b))
  | .add, .tup a, .tup b => if a.length + b.length ≤ cap then .ok (.tup (a ++ b)) else .stuck
  | .add, .lst a, .lst b => if a.length + b.length ≤ cap then .ok (.lst (a ++ b)) else .stuck
  | .add, .str a, .str b => if a.length + b.length ≤ cap then .ok (.str (a ++ b)) else .stuck
  | .sub, .int a, .int b => .ok (.int (a - b))
  | .mul, .int a, .int b => if small64 a || small64 b then .ok (.int (a * b)) else .stuck
  | .mul, .tup a, .int k => if a.length ≤ 1000 ∧ -1000 ≤ k ∧ k ≤ 1000 ∧ a.length * k.toNat ≤ cap then .ok (.tup (List.replicate k.toNat a).flatten) else .stuck
  | .mul, .lst a, .int k => if a.length ≤ 1000 ∧ -1000 ≤ k ∧ k ≤ 1000 ∧ a.length * k.toNat ≤ cap then .ok (.lst (List.replicate k.toNat a).flatten) else .stuck
  | .fdiv, .int a, .int b => if b ≠ 0 ∧ b.natAbs < 1073741824 then .ok (.int (a.fdiv b)) else .stuck
  | .mod, .int a, .int b => if b ≠ 0 then .ok (.int (a.fmod b)) else .stuck
  | .pow, .int a, .int b => if 0 ≤ b ∧ b ≤ 1000000 ∧ a.natAbs < 2 ^ 64 then .ok (.int (a ^ b.toNat)) else .stuck
  | _, _, _ => .stuck
/-- may x be a key of such a dict: of numbers and texts, or of tuples of these -/
def keyFits : Bool → Val → Bool
  | true, .int _ => true
  | true, .str _ => true
  | false, .tup xs => xs.all fun x => match x with
    | .int _ => true
    | .str _ => true
    | _ => false
  | _, _ => false
def oneSign : Val → Option Nat
  | .str s => match s.cps.toList with
    | [c] => some c
    | _ => none
  | _ => none
def isNonV : Val → Bool
  | .non => true
  | _ => false
def isInV (x : Val) : Val → Res Bool
  | .lst xs => if x.lay 60 && xs.all (Val.lay 59) then .ok (xs.any fun y => y.eqv x) else .stuck
  | .scr xs => if x.lay 60 && xs.all (Val.lay 59) then .ok (xs.any fun y => y.eqv x) else .stuck
  | .tup xs => if x.flat && xs.all Val.flat then .ok (xs.any fun y => y.eqv x) else .stuck
  | .str z => match oneSign x with
    | some c => .ok (decide (c ∈ z.cps.toList))
    | none => .stuck
  | .dct k ks _ => if keyFits k x then .ok (ks.any fun y => y.eqv x) else .stuck
  | _ => .stuck
def cmpV : Cop → Val → Val → Res Val
  | .lt, .int a, .int b => .ok (.bool (decide (a < b)))
  | .le, .int a, .int b => .ok (.bool (decide (a ≤ b)))
  | .gt, .int a, .int b => .ok (.bool (decide (b < a)))
  | .ge, .int a, .int b => .ok (.bool (decide (b ≤ a)))
  | .eq, a, b => if a.lay 60 && b.lay 60 then .ok (.bool (a.eqv b)) else .stuck
  | .ne, a, b => if a.lay 60 && b.lay 60 then .ok (.bool (!a.eqv b)) else .stuck
  | .isin, a, b => (isInV a b).bind fun c => .ok (.bool c)
  | .notin, a, b => (isInV a b).bind fun c => .ok (.bool (!c))
  | .is, a, .non => .ok (.bool (isNonV a))
  | .isnot, a, .non => .ok (.bool (!isNonV a))
  | .is, .bool a, .bool b => .ok (.bool (decide (a = b)))
  | .isnot, .bool a, .bool b => .ok (.bool (!decide (a = b)))
  | _, _, _ => .stuck
/-- the value of a key -/
def lookV : List Val → List Val → Val → Option Val
  | k :: ks, v :: vs, x => if k.eqv x then some v else lookV ks vs x
  | _, _, _ => none
/-- the values behind, told anew where the key is x -/
def reV : List Val → List Val → Val → Val → List Val
  | k :: ks, v :: vs, x, y => (if k.eqv x then y else v) :: reV ks vs x y
  | _, _, _, _ => []
def putV (ks vs : List Val) (x y : Val) : List Val × List Val := if ks.any (fun k => k.eqv x) then (ks, reV ks vs x y) else (ks ++ [x], vs ++ [y])
def optR (o : Option Val) : Res Val := match o with
  | some v => .ok v
  | none => .stuck
def idxV : Val → Val → Res Val
  | .tup xs, .int i => optR (atI xs i)
  | .lst xs, .int i => optR (atI xs i)
  | .scr xs, .int i => optR (atI xs i)
  | .dct k ks vs, x => if keyFits k x then optR (lookV ks vs x) else .stuck
  | .str z, .int i => if z.length ≤ cap then optR ((atI z.cps.toList i).map fun c => .str ⟨#[c]⟩) else .stuck
  | _, _ => .stuck
/-- an object's field -/
def lookF : List Str → List Val → Str → Option Val
  | n :: nm, v :: fs, x => if n = x then some v else lookF nm fs x
  | _, _, _ => none
/-- the fields behind, x told anew (last, if it was not there) -/
def putFs : List Str → List Val → Str → Val → List Str × List Val
  | n :: nm, v :: fs, x, y => if n = x then (n :: nm, y :: fs) else (n :: (putFs nm fs x y).1, v :: (putFs nm fs x y).2)
  | _, _, x, y => ([x], [y])
def cutStr (z : Str) (lo hi : Option Int) : Str := ⟨(cut z.cps.toList lo hi).toArray⟩
def sliceV (lo hi : Option Int) : Val → Res Val
  | .tup xs => .ok (.tup (cut xs lo hi))
  | .lst xs => .ok (.lst (cut xs lo hi))
  | .scr xs => .ok (.lst (cut xs lo hi))
  | .str z => if z.length ≤ cap then .ok (.str (cutStr z lo hi)) else .stuck
  | _ => .stuck
def revV : Val → Res Val
  | .lst xs => .ok (.lst xs.reverse)
  | .tup xs => .ok (.tup xs.reverse)
  | _ => .stuck
/-- is a class of errors below another one (RiseError is above all of ours, ValueError above that) -/
def excBelow (c d : Str) : Bool := decide (c = d) || decide (d = ("RiseError" : Str)) || decide (d = ("ValueError" : Str))
/-- the classes of errors that a program of ours raises -/
def XN : List Str := ["RiseError", "NoRule", "NoPlace", "NoStep", "NoHouse", "NoMap", "TooGreat", "NoText"]
/-- is an error of the class d one of the class c -/
def isX (d c : Str) : Res Val := if d ∈ XN ∧ (c ∈ XN ∨ c = "ValueError") then .ok (.bool (excBelow d c)) else .stuck
inductive Ty where | int | bool | tup | lst | dct
inductive Bi where
  | len | list | tuple | all | any | max1 | maxd | max2 | min2 | sorted | sortedSet | sortedSetN | lenSet | int1 | str1 | isinst (t : Ty) | isinLT | isexc (c : Str)
  | index | count | get | join | split
def boolsOf : List Val → Option (List Bool)
  | [] => some []
  | .bool b :: r => (boolsOf r).map (b :: ·)
  | _ :: _ => none
def intsOf : List Val → Option (List Int)
  | [] => some []
  | .int b :: r => (intsOf r).map (b :: ·)
  | _ :: _ => none
def itemsOf : Val → Option (List Val)
  | .tup xs => some xs
  | .lst xs => some xs
  | .scr xs => some xs
  | _ => none
/-- the order of numbers and of tuples of numbers -/
def lexLt : List Val → List Val → Bool
  | [], _ :: _ => true
  | .int a :: r, .int b :: s => if a = b then lexLt r s else decide (a < b)
  | _, _ => false
def valLt : Val → Val → Bool
  | .int a, .int b => decide (a < b)
  | .tup a, .tup b => lexLt a b
  | _, _ => false
def insV (x : Val) : List Val → List Val
  | [] => [x]
  | y :: r => if valLt x y then x :: y :: r else y :: insV x r
/-- sorted, rising -/
def sortV : List Val → List Val
  | [] => []
  | x :: r => insV x (sortV r)
def nubV : List Val → List Val
  | [] => []
  | x :: r => if (nubV r).any (fun y => y.eqv x) then nubV r else x :: nubV r
def maxL : Int → List Int → Int
  | m, [] => m
  | m, x :: r => maxL (if x > m then x else m) r
def typeIs : Ty → Val → Option Bool
  | .int, .int _ => some true
  | .int, .bool _ => some true
  | .int, .exc _ => none
  | .int, .scr _ => none
  | .int, .dct _ _ _ => none
  | .int, .obj _ _ => none
  | .int, _ => some false
  | .bool, .bool _ => some true
  | .bool, .exc _ => none
  | .bool, .scr _ => none
  | .bool, .dct _ _ _ => none
  | .bool, .obj _ _ => none
  | .bool, _ => some false
  | .tup, .tup _ => some true
  | .tup, .exc _ => none
  | .tup, .scr _ => some false
  | .tup, .dct _ _ _ => none
  | .tup, .obj _ _ => none
  | .tup, _ => some false
  | .lst, .lst _ => some true
  | .lst, .exc _ => none
  | .lst, .scr _ => some true
  | .lst, .dct _ _ _ => none
  | .lst, .obj _ _ => none
  | .lst, _ => some false
  | .dct, .exc _ => none
  | .dct, .dct _ _ _ => some true
  | .dct, .obj _ _ => none
  | .dct, _ => some false
/-- data without lists, so deep at most -/
def Val.pd : Nat → Val → Bool
  | _, .non => true
  | _, .bool _ => true
  | _, .int _ => true
  | _, .str _ => true
  | n + 1, .tup xs => xs.all (Val.pd n)
  | _, _ => false
/-- a list of such data, and one of such data and of lists of them -/
def flat4 : Val → Bool
  | .lst us => us.all (Val.pd 4)
  | _ => false
def told2 : Val → Bool
  | .lst ws => ws.all (fun v => v.pd 5 || flat4 v) && decide (ws.length ≤ 1000)
  | _ => false
/-- the same, locked -/
def scr1 : Val → Val
  | .lst us => .scr us
  | v => v
def scr2 : Val → Val
  | .lst ws => .scr (ws.map scr1)
  | v => v
/-- a pair of small ints -/
def pair64 : Val → Bool
  | .tup [.int a, .int b] => decide (0 ≤ a) && (decide (a < 64) && (decide (0 ≤ b) && decide (b < 64)))
  | _ => false
/-- a pair of ints -/
def pairI : Val → Bool
  | .tup [.int _, .int _] => true
  | _ => false
def itOf : Val → Option (Int ⊕ List Int)
  | .int i => some (.inl i)
  | .tup xs => (intsOf xs).map .inr
  | _ => none
def itsOf : List Val → Option (List (Int ⊕ List Int))
  | [] => some []
  | x :: r => (itOf x).bind fun a => (itsOf r).map (a :: ·)
def keysOf : List Val → Option (List (List (Int ⊕ List Int)))
  | [] => some []
  | .tup xs :: r => (itsOf xs).bind fun a => (keysOf r).map (a :: ·)
  | _ :: _ => none
def itVal : Int ⊕ List Int → Val
  | .inl i => .int i
  | .inr ns => .tup (ns.map .int)
def keyVal (k : List (Int ⊕ List Int)) : Val := .tup (k.map itVal)
def tokL : List Int → List Int
  | [] => [0]
  | n :: r => 1 :: n :: tokL r
def sgn : Int ⊕ List Int → List Int
  | .inl i => [i]
  | .inr ns => tokL ns
/-- a key as a row of numbers: its order is the rows' -/
def sgs : List (Int ⊕ List Int) → List Int
  | [] => [0]
  | x :: r => 1 :: (sgn x ++ sgs r)
def lexI : List Int → List Int → Bool
  | [], [] => false
  | [], _ :: _ => true
  | _ :: _, [] => false
  | a :: r, b :: s => decide (a < b) || (!decide (b < a) && lexI r s)
def insK (x : List (Int ⊕ List Int)) : List (List (Int ⊕ List Int)) → List (List (Int ⊕ List Int))
  | [] => [x]
  | y :: r => if lexI (sgs x) (sgs y) then x :: y :: r else y :: insK x r
def sortK : List (List (Int ⊕ List Int)) → List (List (Int ⊕ List Int))
  | [] => []
  | x :: r => insK x (sortK r)
def nubK : List (List (Int ⊕ List Int)) → List (List (Int ⊕ List Int))
  | [] => []
  | x :: r => if (nubK r).any (fun y => decide (y = x)) then nubK r else x :: nubK r
def oneShape : List (List (Int ⊕ List Int)) → Bool
  | [] => true
  | k :: r => !k.isEmpty && r.all fun j => j.map Sum.isLeft == k.map Sum.isLeft
def ssN (xs : List Val) : Res Val := match keysOf xs with
  | some ks => if oneShape ks && decide (xs.length < 64) then .ok (.lst ((sortK (nubK ks)).map keyVal)) else .stuck
  | none => .stuck
def findV (x : Val) : List Val → Nat → Option Nat
  | [], _ => none
  | y :: r, n => if y.eqv x then some n else findV x r (n + 1)
/-- a figure -/
def isFig (c : Nat) : Bool := decide (48 ≤ c) && decide (c ≤ 57)
/-- the number that figures write -/
def figN (l : List Nat) : Nat := l.foldl (fun a c => a * 10 + (c - 48)) 0
/-- signs parted where one stands -/
def splitL (c : Nat) : List Nat → List (List Nat)
  | [] => [[]]
  | x :: r => if x = c then [] :: splitL c r else match splitL c r with
    | y :: s => (x :: y) :: s
    | [] => [[x]]
def strsOf : List Val → Option (List Str)
  | [] => some []
  | .str s :: r => (strsOf r).map (s :: ·)
  | _ :: _ => none
def signsR : Val → Res (List Val)
  | .str z => if z.length ≤ cap then .ok (z.cps.toList.map fun c => .str ⟨#[c]⟩) else .stuck
  | _ => .stuck
def biV : Bi → List Val → Res Val
  | .len, [x] => match x with
    | .tup xs => .ok (.int xs.length)
    | .lst xs => .ok (.int xs.length)
    | .scr xs => .ok (.int xs.length)
    | .str z => if z.length ≤ cap then .ok (.int z.length) else .stuck
    | _ => .stuck
  | .list, [x] => match x with
    | .dct _ ks _ => .ok (.lst ks)
    | x => optR ((itemsOf x).map .lst)
  | .tuple, [x] => optR ((itemsOf x).map .tup)
  | .all, [.lst xs] => optR ((boolsOf xs).map fun bs => .bool (bs.all id))
  | .any, [.lst xs] => optR ((boolsOf xs).map fun bs => .bool (bs.any id))
  | .max1, [.lst xs] => match intsOf xs with
    | some (x :: r) => .ok (.int (maxL x r))
    | _ => .stuck
  | .max2, [.int a, .int b] => .ok (.int (if b > a then b else a))
  | .min2, [.int a, .int b] => .ok (.int (if b < a then b else a))
  | .sorted, [.lst xs] => match intsOf xs with
    | some _ => .ok (.lst (sortV xs))
    | none => if xs.all pairI then .ok (.lst (sortV xs)) else .stuck
  | .lenSet, [.tup xs] => match intsOf xs with
    | some _ => if xs.length < 64 then .ok (.int (nubV xs).length) else .stuck
    | none => .stuck
  | .sortedSet, [.lst xs] => match intsOf xs with
    | some _ => if xs.length < 64 then .ok (.lst (sortV (nubV xs))) else .stuck
    | none => if xs.all pair64 then (if xs.length < 64 then .ok (.lst (sortV (nubV xs))) else .stuck) else .stuck
  | .sortedSetN, [.lst xs] => ssN xs
  | .sortedSetN, [.tup xs] => ssN xs
  | .int1, [.bool b] => .ok (.int (if b then 1 else 0))
  | .int1, [.str z] => if 1 ≤ z.length ∧ z.length ≤ 18 ∧ z.cps.toList.all isFig = true then .ok (.int (figN z.cps.toList : Nat)) else .stuck
  | .str1, [.int n] => if n.natAbs < 2 ^ 64 then .ok (.str (Str.ofString (toString n))) else .stuck
  | .str1, [.str z] => .ok (.str z)
  | .join, [.str a, .lst xs] => match strsOf xs with
    | some l => if (l.map Str.length).sum + l.length * a.length ≤ 10000000 then .ok (.str (Str.join a l)) else .stuck
    | none => .stuck
  | .split, [.str a, b] => match oneSign b with
    | some c => if a.length + 2 ≤ cap then .ok (.lst ((splitL c a.cps.toList).map fun l => .str ⟨l.toArray⟩)) else .stuck
    | none => .stuck
  | .isinst t, [x] => optR ((typeIs t x).map .bool)
  | .index, [.lst xs, y] => if y.flat && xs.all Val.flat then optR ((findV y xs 0).map fun j => .int (j : Nat)) else .stuck
  | .count, [.lst xs, y] => if y.flat && xs.all Val.flat then .ok (.int (xs.countP fun x => x.eqv y : Nat)) else .stuck
  | .isexc c, [.exc d] => isX d c
  | .get, [.dct k ks vs, x, d] => if keyFits k x then .ok ((lookV ks vs x).getD d) else .stuck
  | _, _ => .stuck
/-- does a method's receiver fit -/
def recvOk : Bi → Val → Bool
  | .index, .lst _ => true
  | .index, _ => false
  | .count, .lst _ => true
  | .count, _ => false
  | .get, .dct _ _ _ => true
  | .get, _ => false
  | .join, .str _ => true
  | .join, _ => false
  | .split, .str _ => true
  | .split, _ => false
  | _, _ => true
/-- a target: a name, or names of a tuple's items -/
inductive Tg where | name (i : Nat) | tup (is : List Nat) | pair (a b : Tg)
mutual
inductive E where
  | var (i : Nat) | int (n : Int) | bool (b : Bool) | non | str (s : Str) | glob (x : Str) (n : Int)
  | tup (es : Es) | lst (es : Es) | dict (k : Bool)
  | bin (op : Bop) (a b : E) | neg (a : E) | cmp (op : Cop) (a b : E) | chain (o1 o2 : Cop) (a b c : E)
  | and (a b : E) | or (a b : E) | not (a : E) | ife (c a b : E)
  | idx (a b : E) | slice (a : E) (lo hi : Eo) | rev (a : E)
  | comp (elt : E) (tg : Tg) (src : Src) (cond : Eo) (own : List Nat)
  | call (x : Str) (F : List Val → Res Val) (es : Es)
  | attr (i : Nat) (f : Str) | meth (i : Nat) (m : Str) (F : List Val → Res Val) (es : Es)
  | b1 (f : Bi) (a : E) | b2 (f : Bi) (a b : E) | b3 (f : Bi) (a b c : E) | rng (src : Src)
inductive Es where | nil | cons (e : E) (es : Es)
inductive Eo where | no | yes (e : E)
inductive Src where | seq (e : E) | range1 (a : E) | range2 (a b : E) | enum (e : E) | zip (a b : E) | signs (e : E)
end
/-- what an object that is changed in place holds -/
inductive Cont where
  | lst (vs : List Val) | dct (k : Bool) (ks vs : List Val) | obj (nm : List Str) (fs : List Val)
/-- io: a parameter that the def changes in place (t: a mark that stays); eob: an object whose fields alone are read -/
inductive Slot where
  | non | val (v : Val) | own (vs : List Val) | own2 (vss : List (List Val)) | odct (k : Bool) (ks vs : List Val)
  | obj (nm : List Str) (fs : List Val) | io (t : Nat) (c : Cont) | eob (nm : List Str) (fs : List Val) | deep (v : Val)
abbrev Env := List Slot
def Slot.erase : Slot → Slot
  | .val v => .val v
  | .obj nm fs => .eob nm fs
  | .io _ (.obj nm fs) => .eob nm fs
  | .eob nm fs => .eob nm fs
  | _ => .non
def Cont.val : Cont → Val
  | .lst vs => .lst vs
  | .dct k ks vs => .dct k ks vs
  | .obj nm fs => .obj nm fs
/-- an object's fields by its slot -/
def flds : Option Slot → Option (List Str × List Val)
  | some (.val (.obj nm fs)) => some (nm, fs)
  | some (.obj nm fs) => some (nm, fs)
  | some (.io _ (.obj nm fs)) => some (nm, fs)
  | some (.eob nm fs) => some (nm, fs)
  | _ => none
def eraseM (ρ : Env) : Env := ρ.map Slot.erase
def kill (ρ : Env) : List Nat → Env
  | [] => ρ
  | i :: is => kill (ρ.set i .non) is
def slotV (o : Option Slot) : Res Val := match o with
  | some (.val v) => .ok v
  | some (.own vs) => .ok (.lst vs)
  | some (.own2 vss) => .ok (.lst (vss.map .lst))
  | some (.odct k ks vs) => .ok (.dct k ks vs)
  | some (.obj nm fs) => .ok (.obj nm fs)
  | some (.io _ c) => .ok c.val
  | _ => .stuck
def attrV (o : Option (List Str × List Val)) (f : Str) : Res Val := match o with
  | some p => optR (lookF p.1 p.2 f)
  | none => .stuck
/-- a method that changes nothing -/
def methO (m : Str) (o : Val) : Res Val := match o with
  | .obj nm fs => if m ∈ nm then .stuck else .ok (.obj nm fs)
  | _ => .stuck
def bindAll (ρ : Env) : List Nat → List Val → Option Env
  | [], [] => some ρ
  | i :: is, v :: vs => bindAll (ρ.set i (.val v)) is vs
  | _, _ => none
def bindT : Tg → Val → Env → Option Env
  | .name i, v, ρ => some (ρ.set i (.val v))
  | .tup is, .tup vs, ρ => bindAll ρ is vs
  | .tup _, _, _ => none
  | .pair a b, .tup [x, y], ρ => (bindT a x ρ).bind fun ρ' => bindT b y ρ'
  | .pair _ _, _, _ => none
def asInt (f : Int → Res Val) : Val → Res Val
  | .int i => f i
  | _ => .stuck
def asB {α : Type} (f : Bool → Res α) : Val → Res α
  | .bool b => f b
  | _ => .stuck
def compL (f : Val → Res (Option Val)) : List Val → Res (List Val)
  | [] => .ok []
  | x :: xs => match f x with
    | .ok o => match compL f xs with
      | .ok ys => .ok (match o with
        | some y => y :: ys
        | none => ys)
      | _ => .stuck
    | _ => .stuck
/-- what a comprehension does with an item -/
def compF (tg : Tg) (own : List Nat) (dc de : Env → Res Val) (ρ : Env) (x : Val) : Res (Option Val) := match bindT tg x (kill ρ own) with
  | none => .stuck
  | some ρ' => (dc ρ').bind (asB fun k => if k then (de ρ').bind fun v => .ok (some v) else .ok none)
def rangeV (a : Int) : Nat → List Val
  | 0 => []
  | n + 1 => .int a :: rangeV (a + 1) n
def enumV : Nat → List Val → List Val
  | _, [] => []
  | n, x :: r => .tup [.int (n : Nat), x] :: enumV (n + 1) r
def zipV : List Val → List Val → List Val
  | x :: r, y :: s => .tup [x, y] :: zipV r s
  | _, _ => []
def zipR : Val → Val → Res (List Val)
  | .tup xs, .tup ys => .ok (zipV xs ys)
  | .lst xs, .lst ys => .ok (zipV xs ys)
  | .lst xs, .tup ys => .ok (zipV xs ys)
  | _, _ => .stuck
def optI : Option Val → Res (Option Int)
  | none => .ok none
  | some (.int i) => .ok (some i)
  | _ => .stuck
def itemsR (v : Val) : Res (List Val) := match itemsOf v with
  | some xs => .ok xs
  | none => .stuck
def rangeR (a b : Int) : Res (List Val) := if -(2 ^ 62) ≤ a ∧ a < 2 ^ 62 ∧ -(2 ^ 62) ≤ b ∧ b < 2 ^ 62 ∧ (b - a).toNat ≤ cap then .ok (rangeV a (b - a).toNat) else .stuck
mutual
def evE : E → Env → Res Val
  | .var i, ρ => slotV ρ[i]?
  | .int n, _ => .ok (.int n)
  | .bool b, _ => .ok (.bool b)
  | .non, _ => .ok .non
  | .str s, _ => .ok (.str s)
  | .glob _ n, _ => .ok (.int n)
  | .tup es, ρ => (evEs es ρ).bind fun vs => if vs.length ≤ cap then .ok (.tup vs) else .stuck
  | .lst es, ρ => (evEs es ρ).bind fun vs => if vs.length ≤ cap then .ok (.lst vs) else .stuck
  | .dict k, _ => .ok (.dct k [] [])
  | .bin op a b, ρ => (evE a ρ).bind fun x => (evE b ρ).bind fun y => binV op x y
  | .neg a, ρ => (evE a ρ).bind (asInt fun i => .ok (.int (-i)))
  | .cmp op a b, ρ => (evE a ρ).bind fun x => (evE b ρ).bind fun y => cmpV op x y
  | .chain o1 o2 a b c, ρ => (evE a ρ).bind fun x => (evE b ρ).bind fun y => (cmpV o1 x y).bind (asB fun k => if k then (evE c ρ).bind fun z => cmpV o2 y z else .ok (.bool false))
  | .and a b, ρ => (evE a ρ).bind (asB fun k => if k then (evE b ρ).bind (asB fun k => .ok (.bool k)) else .ok (.bool false))
  | .or a b, ρ => (evE a ρ).bind (asB fun k => if k then .ok (.bool true) else (evE b ρ).bind (asB fun k => .ok (.bool k)))
  | .not a, ρ => (evE a ρ).bind (asB fun k => .ok (.bool (!k)))
  | .ife c a b, ρ => (evE c ρ).bind (asB fun k => if k then evE a ρ else evE b ρ)
  | .idx a b, ρ => (evE a ρ).bind fun x => (evE b ρ).bind fun y => idxV x y
  | .slice a lo hi, ρ => (evE a ρ).bind fun x => (evEo lo ρ).bind fun l => (optI l).bind fun l => (evEo hi ρ).bind fun h => (optI h).bind fun h => sliceV l h x
  | .rev a, ρ => (evE a ρ).bind revV
  | .comp elt tg src cond own, ρ => (evSrc src ρ).bind fun items => (compL (compF tg own (fun ρ => evC cond ρ) (fun ρ => evE elt ρ) ρ) items).bind fun vs => .ok (.lst vs)
  | .call _ F es, ρ => (evEs es ρ).bind F
  | .attr i f, ρ => attrV (flds ρ[i]?) f
  | .meth i m F es, ρ => (slotV ρ[i]?).bind fun o => (methO m o).bind fun o => (evEs es ρ).bind fun vs => F (o :: vs)
  | .b1 f a, ρ => (evE a ρ).bind fun x => biV f [x]
  | .b2 f a b, ρ => (evE a ρ).bind fun x => if recvOk f x then (evE b ρ).bind fun y => biV f [x, y] else .stuck
  | .b3 f a b c, ρ => (evE a ρ).bind fun x => if recvOk f x then (evE b ρ).bind fun y => (evE c ρ).bind fun z => biV f [x, y, z] else .stuck
  | .rng src, ρ => (evSrc src ρ).bind fun vs => .ok (.lst vs)
def evEs : Es → Env → Res (List Val)
  | .nil, _ => .ok []
  | .cons e es, ρ => (evE e ρ).bind fun v => (evEs es ρ).bind fun vs => .ok (v :: vs)
def evEo : Eo → Env → Res (Option Val)
  | .no, _ => .ok none
  | .yes e, ρ => (evE e ρ).bind fun v => .ok (some v)
def evC : Eo → Env → Res Val
  | .no, _ => .ok (.bool true)
  | .yes e, ρ => evE e ρ
def evSrc : Src → Env → Res (List Val)
  | .seq e, ρ => (evE e ρ).bind itemsR
  | .range1 a, ρ => (evE a ρ).bind fun x => match x with
    | .int i => rangeR 0 i
    | _ => .stuck
  | .range2 a b, ρ => (evE a ρ).bind fun x => (evE b ρ).bind fun y => match x, y with
    | .int i, .int j => rangeR i j
    | _, _ => .stuck
  | .enum e, ρ => (evE e ρ).bind fun x => (itemsR x).bind fun xs => .ok (enumV 0 xs)
  | .zip a b, ρ => (evE a ρ).bind fun x => (evE b ρ).bind fun y => zipR x y
  | .signs e, ρ => (evE e ρ).bind signsR
end
/-- items, each by a step that may raise -/
def compX (f : Val → Res Val) : List Val → Res (List Val)
  | [] => .ok []
  | x :: xs => (f x).bind fun v => (compX f xs).bind fun vs => .ok (v :: vs)
def stepX (tg : Tg) (own : List Nat) (de : Env → Res Val) (ρ : Env) (x : Val) : Res Val := match bindT tg x (kill ρ own) with
  | none => .stuck
  | some ρ' => de ρ'
/-- tuple([elt for tg in src]), the element may raise -/
def evX (elt : E) (tg : Tg) (src : Src) (own : List Nat) (ρ : Env) : Res Val := ((evSrc src ρ).bind fun items => (compX (stepX tg own (fun ρ => evE elt ρ) ρ) items).bind fun vs => .ok (.lst vs)).bind fun x => biV .tuple [x]
/-- how a value is kept: from what no changed list goes into; a value without lists; a new list of such -/
inductive Md where | plain | pure | fresh | call
/-- what a def that changes an object comes to: a value, or an error; and what the object holds behind it -/
inductive OutM where
  | ok (v : Val) (c : Cont) | exc (x : Str) (c : Cont) | stuck
inductive MKd where | fn | meth
/-- a call that changes the object at slot i: a def's, the object its j-th argument; a method's of the object (j = 0) -/
structure MC where
  k : MKd
  i : Nat
  m : Str
  j : Nat
  F : List Val → Cont → OutM
  es : Es
mutual
inductive S where
  | asg (m : Md) (i : Nat) (e : E) | own (m : Md) (i : Nat) (e : E) | own2 (i : Nat) (e : E) | odict (i : Nat) (k : Bool)
  | unp (m : Md) (is : List Nat) (e : E) | par (is : List Nat) (es : Es)
  | app (m : Md) (i : Nat) (e : E) | appOwn (i j : Nat) | ext (m : Md) (i : Nat) (e : E)
  | set (m : Md) (i : Nat) (ie e : E) | set2 (i : Nat) (ie je e : E) | setd (m : Md) (i : Nat) (ke e : E)
  | pop (i j : Nat) (e : Eo) | appPop (i j : Nat) (e : E) | compPop (i j : Nat) (e : E) (tg : Nat) (src : Src)
  | ret (e : E) | raise (c : Str) | frz (i : Nat) | expr (e : E) | pass | dead | revN (i : Nat) | deepC (i : Nat) (x : Str) (F : List Val → Res Val) (es : Es) | copyD (j : Nat) (x : Str) (F : List Val → Res Val) (i : Nat) | spoilD (x : Str) (d i : Nat) | spoilE (x : Str) (e : E) | newK2 (d1 d2 : Nat) (F : List Val → Cont → OutM) (es1 es2 : Es) | brk
  | ite (c : E) (a b : Ss) | for (tg : Tg) (src : Src) (body : Ss) (ks : List Nat) | while (c : E) (body : Ss) (ks : List Nat)
  | forPop (tg : Tg) (a : E) (j : Nat) (c : Int) (body : Ss) (ks : List Nat) | forM (tg : Tg) (e : E) (body : Ss) (ks : List Nat) | forR (tg : Tg) (a : E) (body : Ss) (ks : List Nat)
  | try1 (body : Ss) (c : Str) (e : Nat) (j : Nat)
  | compT (d : Option Nat) (elt : E) (tg : Tg) (src : Src) (own : List Nat)
  | forO (tg : Tg) (i : Nat) (c : MC) (ks : List Nat) | appM (i : Nat) (e : E) | retM (e : E) | setA (i : Nat) (f : Str) (e : E) | callM (d : Option Nat) (c : MC) | iteM (q : Eo) (c : MC) (a b : Ss) | callM2 (d : Nat) (q : E) (c1 c2 : MC)
  | newK (d : Nat) (F : List Val → Cont → OutM) (es : Es) | setdMax (i : Nat) (ke : E) (tg : Nat) (src : E) (x : Str) (j : Nat) (F : List Val → Cont → OutM) (es : Es) | retD (x : Str) (j : Nat) (F : List Val → Cont → OutM) (es : Es)
inductive Ss where | nil | cons (s : S) (ss : Ss)
end
inductive Out where
  | nx (ρ : Env) | ret (v : Val) | brk (ρ : Env) | exc (c : Str) (ρ : Env) | stuck | retM (v : Val) (ρ : Env)
/-- an expression that makes a list makes a new one -/
def freshTop : E → Bool
  | .lst _ => true
  | .comp .. => true
  | .bin .add _ _ => true
  | .bin .mul _ _ => true
  | .slice .. => true
  | .rev _ => true
  | .b1 .list _ => true
  | .b1 .sorted _ => true
  | .b1 .sortedSet _ => true
  | .rng _ => true
  | _ => false
/-- a list that is surely new -/
def frM (m : Md) (e : E) : Bool := match m with
  | .call => true
  | _ => freshTop e
def storeV (m : Md) (e : E) (ρ : Env) : Res Val := match m with
  | .plain => evE e (eraseM ρ)
  | .pure => (evE e ρ).bind fun v => if v.pure then .ok v else .stuck
  | .fresh => (evE e ρ).bind fun v => match v with
    | .lst xs => if freshTop e && xs.all Val.pure then .ok v else .stuck
    | _ => .stuck
  | .call => match e with
    | .call _ F es => (evEs es (eraseM ρ)).bind fun vs => if Val.pures vs then (F vs).bind fun v => match v with
      | .lst xs => if Val.pures xs then .ok v else .stuck
      | _ => .stuck else .stuck
    | _ => .stuck
/-- the values of a row: from what no changed list goes into, or values without lists -/
def evPar (es : Es) (ρ : Env) : Res (List Val) := match evEs es (eraseM ρ) with
  | .stuck => (evEs es ρ).bind fun vs => if Val.pures vs then .ok vs else .stuck
  | r => r
theorem evPar_ok {es : Es} {ρ : Env} {vs : List Val} (h : evPar es ρ = .ok vs) : evEs es (eraseM ρ) = .ok vs ∨ (evEs es ρ = .ok vs ∧ Val.pures vs = true) := by
  unfold evPar at h
  split at h
  · cases q : evEs es ρ with
    | ok us =>
      rw [q] at h
      have h : (if Val.pures us then Res.ok us else .stuck) = .ok vs := h
      split at h
      · rename_i hp
        cases h
        exact .inr ⟨rfl, hp⟩
      · cases h
    | exc c =>
      rw [q] at h
      cases h
    | stuck =>
      rw [q] at h
      cases h
  · exact .inl h
theorem evPar_exc {es : Es} {ρ : Env} {c : Str} (h : evPar es ρ = .exc c) : evEs es (eraseM ρ) = .exc c ∨ evEs es ρ = .exc c := by
  unfold evPar at h
  split at h
  · cases q : evEs es ρ with
    | ok us =>
      rw [q] at h
      have h : (if Val.pures us then Res.ok us else .stuck) = .exc c := h
      split at h <;> cases h
    | exc d =>
      rw [q] at h
      cases h
      exact .inr rfl
    | stuck =>
      rw [q] at h
      cases h
  · exact .inl h
def Res.out {α : Type} (r : Res α) (ρ : Env) (f : α → Out) : Out := match r with
  | .ok a => f a
  | .exc c => .exc c ρ
  | .stuck => .stuck
@[simp] theorem Res.out_ok {α : Type} (a : α) (ρ : Env) (f : α → Out) : (Res.ok a).out ρ f = f a := rfl
@[simp] theorem Res.out_exc {α : Type} (c : Str) (ρ : Env) (f : α → Out) : (Res.exc c).out ρ f = .exc c ρ := rfl
@[simp] theorem Res.out_stuck {α : Type} (ρ : Env) (f : α → Out) : (Res.stuck : Res α).out ρ f = .stuck := rfl
def Out.bind (o : Out) (f : Env → Out) : Out := match o with
  | .nx ρ => f ρ
  | o => o
@[simp] theorem Out.bind_nx (ρ : Env) (f : Env → Out) : (Out.nx ρ).bind f = f ρ := rfl
@[simp] theorem Out.bind_ret (v : Val) (f : Env → Out) : (Out.ret v).bind f = .ret v := rfl
@[simp] theorem Out.bind_brk (ρ : Env) (f : Env → Out) : (Out.brk ρ).bind f = .brk ρ := rfl
@[simp] theorem Out.bind_exc (c : Str) (ρ : Env) (f : Env → Out) : (Out.exc c ρ).bind f = .exc c ρ := rfl
@[simp] theorem Out.bind_retM (v : Val) (ρ : Env) (f : Env → Out) : (Out.retM v ρ).bind f = .retM v ρ := rfl
@[simp] theorem Out.bind_stuck (f : Env → Out) : Out.stuck.bind f = .stuck := rfl
def asO {α : Type} (o : Option α) (f : α → Out) : Out := match o with
  | some a => f a
  | none => .stuck
@[simp] theorem asO_some {α : Type} (a : α) (f : α → Out) : asO (some a) f = f a := rfl
@[simp] theorem asO_none {α : Type} (f : α → Out) : asO (none : Option α) f = .stuck := rfl
def ownOf : Option Slot → Option (List Val)
  | some (.own vs) => some vs
  | _ => none
def own2Of : Option Slot → Option (List (List Val))
  | some (.own2 vss) => some vss
  | _ => none
def dctOf : Option Slot → Option (Bool × List Val × List Val)
  | some (.odct k ks vs) => some (k, ks, vs)
  | _ => none
def contOf : Option Slot → Option Cont
  | some (.own vs) => some (.lst vs)
  | some (.odct true ks vs) => some (.dct true ks vs)
  | some (.obj nm fs) => some (.obj nm fs)
  | some (.io _ c) => some c
  | _ => none
/-- the slot behind a call that changed its object -/
def putC : Option Slot → Cont → Option Slot
  | some (.own _), .lst vs => some (.own vs)
  | some (.odct true _ _), .dct true ks vs => some (.odct true ks vs)
  | some (.obj _ _), .obj nm fs => some (.obj nm fs)
  | some (.io t _), c => some (.io t c)
  | _, _ => none
def lstOf : Val → Option (List Val)
  | .lst xs => some xs
  | _ => none
def intOf : Val → Option Int
  | .int i => some i
  | _ => none
def boolOf : Val → Option Bool
  | .bool i => some i
  | _ => none
def lstsOf : List Val → Option (List (List Val))
  | [] => some []
  | .lst xs :: r => (lstsOf r).map (xs :: ·)
  | _ :: _ => none
def fresh2 : E → Bool
  | .lst .nil => true
  | .comp elt .. => freshTop elt
  | _ => false
/-- a tuple's, a list's items for so many names -/
def unpV : Val → Option (List Val)
  | .tup xs => some xs
  | .lst xs => some xs
  | _ => none
def frzS : Option Slot → Slot
  | some (.val v) => .val v
  | some (.own vs) => .val (.lst vs)
  | _ => .non
def popAt (vs : List Val) : Option Int → Option (Val × List Val)
  | none => (vs[vs.length - 1]?).map fun y => (y, vs.dropLast)
  | some i => (ixN vs.length i).bind fun k => (vs[k]?).map fun y => (y, vs.eraseIdx k)
def popAll (f : Val → List Val → Option (Val × List Val)) : List Val → List Val → Option (List Val × List Val)
  | [], vs => some ([], vs)
  | x :: r, vs => match f x vs with
    | some (y, vs') => (popAll f r vs').map fun p => (y :: p.1, p.2)
    | none => none
/-- may the call be made of such an object -/
def mOk (c : MC) : Cont → Bool
  | .obj nm _ => match c.k with
    | .meth => decide (c.m ∉ nm)
    | .fn => true
  | _ => match c.k with
    | .meth => false
    | .fn => true
/-- a call that changes an object, then on -/
def evM (c : MC) (ρ : Env) (k : Val → Env → Out) : Out := asO (contOf ρ[c.i]?) fun ct => if mOk c ct = false then .stuck else (evEs c.es (eraseM ρ)).out ρ fun vs => match c.F vs ct with
  | .ok v ct' => if v.pure then asO (putC ρ[c.i]? ct') fun s => k v (ρ.set c.i s) else .stuck
  | .exc x ct' => asO (putC ρ[c.i]? ct') fun s => .exc x (ρ.set c.i s)
  | .stuck => .stuck
abbrev KV := List Val × List Val
/-- a whole number, and what the dict holds behind it -/
def mcR : OutM → Option (Int × KV)
  | .ok (.int h) (.dct true ks vs) => some (h, (ks, vs))
  | _ => none
/-- 1 + F(..) for each of some items, a dict being changed meanwhile -/
def colM (f : Val → KV → Option (Int × KV)) : List Val → KV → Option (List Int × KV)
  | [], kv => some ([], kv)
  | x :: r, kv => (f x kv).bind fun q => (colM f r q.2).map fun p => ((1 + q.1) :: p.1, p.2)
def dctC : Option Cont → Option KV
  | some (.dct true ks vs) => some (ks, vs)
  | _ => none
def lstC : Option Cont → Option (List Val)
  | some (.lst vs) => some vs
  | _ => none
def max0 : List Int → Int
  | [] => 0
  | x :: r => maxL x r
def forL (step : Val → Env → Out) (fin : Env → Env) : List Val → Env → Out
  | [], ρ => .nx (fin ρ)
  | x :: r, ρ => match step x (fin ρ) with
    | .nx ρ' => forL step fin r ρ'
    | .brk ρ' => .nx (fin ρ')
    | o => o
def whileL (cond : Env → Res Val) (body : Env → Out) (fin : Env → Env) : Nat → Env → Out
  | 0, _ => .stuck
  | n + 1, ρ => (cond (fin ρ)).out (fin ρ) fun v => asO (boolOf v) fun b => if b then
      match body (fin ρ) with
      | .nx ρ' => whileL cond body fin n ρ'
      | .brk ρ' => .nx (fin ρ')
      | o => o
    else .nx (fin ρ)
mutual
def evS (n : Nat) : S → Env → Out
  | .asg m i e, ρ => (storeV m e ρ).out ρ fun v => .nx (ρ.set i (.val v))
  | .own m i e, ρ => (storeV m e ρ).out ρ fun v => asO (lstOf v) fun xs => if frM m e then .nx (ρ.set i (.own xs)) else .stuck
  | .own2 i e, ρ => (evE e (eraseM ρ)).out ρ fun v => asO (lstOf v) fun xs => asO (lstsOf xs) fun xss => if fresh2 e then .nx (ρ.set i (.own2 xss)) else .stuck
  | .odict i k, ρ => .nx (ρ.set i (.odct k [] []))
  | .unp m is e, ρ => (storeV m e ρ).out ρ fun v => asO (unpV v) fun vs => asO (bindAll ρ is vs) fun ρ' => .nx ρ'
  | .par is es, ρ => (evPar es ρ).out ρ fun vs => asO (bindAll ρ is vs) fun ρ' => .nx ρ'
  | .app m i e, ρ => asO (ownOf ρ[i]?) fun vs => (storeV m e ρ).out ρ fun v => if vs.length < cap then .nx (ρ.set i (.own (vs ++ [v]))) else .stuck
  | .appOwn i j, ρ => asO (ownOf ρ[j]?) fun ws => asO (own2Of ρ[i]?) fun vss => if vss.length < cap ∧ i ≠ j then .nx ((ρ.set j .non).set i (.own2 (vss ++ [ws]))) else .stuck
  | .ext m i e, ρ => asO (ownOf ρ[i]?) fun vs => (storeV m e ρ).out ρ fun v => asO (lstOf v) fun ws => if vs.length + ws.length ≤ cap then .nx (ρ.set i (.own (vs ++ ws))) else .stuck
  | .set m i ie e, ρ => (storeV m e ρ).out ρ fun v => asO (ownOf ρ[i]?) fun vs => (evE ie ρ).out ρ fun w => asO (intOf w) fun k => asO (ixN vs.length k) fun j => .nx (ρ.set i (.own (vs.set j v)))
  | .set2 i ie je e, ρ => (storeV .pure e ρ).out ρ fun v => asO (own2Of ρ[i]?) fun vss => (evE ie ρ).out ρ fun w => asO (intOf w) fun k => asO (ixN vss.length k) fun j => asO vss[j]? fun vs =>
      (evE je ρ).out ρ fun w2 => asO (intOf w2) fun k2 => asO (ixN vs.length k2) fun j2 => .nx (ρ.set i (.own2 (vss.set j (vs.set j2 v))))
  | .setd m i ke e, ρ => (storeV m e ρ).out ρ fun v => asO (dctOf ρ[i]?) fun kv => (storeV .pure ke ρ).out ρ fun k => if kv.2.1.length < cap ∧ keyFits kv.1 k then .nx (ρ.set i (.odct kv.1 (putV kv.2.1 kv.2.2 k v).1 (putV kv.2.1 kv.2.2 k v).2)) else .stuck
  | .pop i j e, ρ => asO (ownOf ρ[j]?) fun vs => (evEo e ρ).out ρ fun o => (optI o).out ρ fun o => asO (popAt vs o) fun p => if i = j then .stuck else .nx ((ρ.set j (.own p.2)).set i (.val p.1))
  | .appPop i j e, ρ => asO (ownOf ρ[j]?) fun vs => asO (ownOf ρ[i]?) fun ws => (evE e ρ).out ρ fun w => asO (intOf w) fun k => asO (popAt vs (some k)) fun p => if i = j ∨ ¬ ws.length < cap then .stuck else .nx ((ρ.set j (.own p.2)).set i (.own (ws ++ [p.1])))
  | .compPop i j e tg src, ρ => asO (ownOf ρ[j]?) fun vs => (evSrc src (eraseM ρ)).out ρ fun items => asO (popAll (fun x vs =>
      match evE e ((((ρ.set i .non).set tg .non).set j (.own vs)).set tg (.val x)) with
      | .ok (.int k) => popAt vs (some k)
      | _ => none) items vs) fun p => if i = j ∨ tg = j then .stuck else .nx ((ρ.set j (.own p.2)).set i (.val (.lst p.1)))
  | .ret e, ρ => (evE e ρ).out ρ .ret
  | .raise c, ρ => .exc c ρ
  | .frz i, ρ => .nx (ρ.set i (frzS ρ[i]?))
  | .expr e, ρ => (evE e ρ).out ρ fun _ => .nx ρ
  | .pass, ρ => .nx ρ
  | .dead, _ => .stuck
  | .revN _, _ => .stuck
  | .deepC i _ F es, ρ => (evEs es (eraseM ρ)).out ρ fun vs => if Val.pures vs then (match F vs with
    | .ok v => .nx (ρ.set i (.deep v))
    | _ => .stuck) else .stuck
  | .copyD j _ F i, ρ => match ρ[i]? with
    | some (.deep w) => if told2 w then (match F [scr2 w] with
      | .ok v => if told2 v then .nx (ρ.set j (.val v)) else .stuck
      | _ => .stuck) else .stuck
    | _ => .stuck
  | .spoilD _ d i, ρ => match ρ[i]? with
    | some (.deep w) => if told2 w && d == 6 then .nx (ρ.set i .non) else .stuck
    | _ => .stuck
  | .spoilE _ e, ρ => (storeV .pure e ρ).out ρ fun v => if v.pd 6 then .nx ρ else .stuck
  | .newK2 d1 d2 F es1 es2, ρ => (evEs es1 (eraseM ρ)).out ρ fun vs => match F vs (.obj [] []) with
    | .ok .non (.obj nm fs) => (evEs es2 (eraseM ρ)).out ρ fun us => (match F us (.obj [] []) with
      | .ok .non (.obj nm2 fs2) => if d1 = d2 then .stuck else .nx ((ρ.set d1 (.obj nm fs)).set d2 (.obj nm2 fs2))
      | _ => .stuck)
    | _ => .stuck
  | .brk, ρ => .brk ρ
  | .ite c a b, ρ => (evE c ρ).out ρ fun v => asO (boolOf v) fun k => if k then evSs n a ρ else evSs n b ρ
  | .for tg src body ks, ρ => (evSrc src (eraseM ρ)).out ρ fun items => forL (fun x ρ => asO (bindT tg x ρ) fun ρ' => evSs n body ρ') (fun ρ => kill ρ ks) items ρ
  | .while c body ks, ρ => whileL (fun ρ => evE c ρ) (fun ρ => evSs n body ρ) (fun ρ => kill ρ ks) n ρ
  | .forM tg e body ks, ρ => (storeV .fresh e ρ).out ρ fun v => (itemsR v).out ρ fun items => forL (fun x ρ => asO (bindT tg x ρ) fun ρ' => evSs n body ρ') (fun ρ => kill ρ ks) items ρ
  | .forR tg a body ks, ρ => (evE a ρ).out ρ fun v => asO (intOf v) fun i => (rangeR 0 i).out ρ fun items => forL (fun x ρ => asO (bindT tg x ρ) fun ρ' => evSs n body ρ') (fun ρ => kill ρ ks) items ρ
  | .forPop tg a j c body ks, ρ => asO (ownOf ρ[j]?) fun vs => (evE a (eraseM ρ)).out ρ fun x => asO (popAt vs none) fun p => (idxV x p.1).out ρ fun y => (idxV y (.int c)).out ρ fun z => (itemsR z).out ρ fun items =>
      forL (fun x ρ => asO (bindT tg x ρ) fun ρ' => evSs n body ρ') (fun ρ => kill ρ ks) items (ρ.set j (.own p.2))
  | .try1 body c e j, ρ => match evSs n body ρ with
    | .exc d ρ' => if d ∈ XN ∧ c ∈ XN ∧ excBelow d c = true ∧ e ≠ j ∧ e < ρ'.length then .nx ((ρ'.set j (.val (.exc d))).set e .non) else .stuck
    | o => o
  | .retM e, ρ => (evE e ρ).out ρ fun v => if v.pure then .retM v ρ else .stuck
  | .compT d elt tg src own, ρ => (evX elt tg src own (eraseM ρ)).out ρ fun v => match d with
    | some i => .nx (ρ.set i (.val v))
    | none => .ret v
  | .forO tg i c ks, ρ => asO (ownOf ρ[i]?) fun vs => if i = c.i then .stuck else forL (fun x ρ => asO (bindT tg x ρ) fun ρ' => evM c ρ' fun _ ρ'' => .nx ρ'') (fun ρ => kill ρ ks) vs ρ
  | .appM i e, ρ => asO (lstC (contOf ρ[i]?)) fun vs => (storeV .pure e ρ).out ρ fun v => if vs.length < cap then asO (putC ρ[i]? (.lst (vs ++ [v]))) fun s => .nx (ρ.set i s) else .stuck
  | .setA i f e, ρ => (storeV .pure e ρ).out ρ fun v => asO (flds ρ[i]?) fun p => if p.1.length < 900 then asO (putC ρ[i]? (.obj (putFs p.1 p.2 f v).1 (putFs p.1 p.2 f v).2)) fun s => .nx (ρ.set i s) else .stuck
  | .callM d c, ρ => evM c ρ fun v ρ' => match d with
    | none => .nx ρ'
    | some d => if d = c.i then .stuck else .nx (ρ'.set d (.val v))
  | .iteM q c a b, ρ => (evC q ρ).out ρ fun w => asO (boolOf w) fun k0 => if k0 then evM c ρ fun v ρ' => asO (boolOf v) fun k => if k then evSs n a ρ' else evSs n b ρ' else evSs n b ρ
  | .callM2 d q c1 c2, ρ => (evE q ρ).out ρ fun w => asO (boolOf w) fun k0 => if k0 then evM c1 ρ fun v ρ' => (if d = c1.i then .stuck else .nx (ρ'.set d (.val v))) else evM c2 ρ fun v ρ' => (if d = c2.i then .stuck else .nx (ρ'.set d (.val v)))
  | .newK d F es, ρ => (evEs es (eraseM ρ)).out ρ fun vs => match F vs (.obj [] []) with
    | .ok .non (.obj nm fs) => .nx (ρ.set d (.obj nm fs))
    | _ => .stuck
  | .setdMax i ke tg src x j F es, ρ => asO (dctC (contOf ρ[i]?)) fun kv => (evSrc (.seq src) (eraseM ρ)).out ρ fun items => asO (colM (fun x kv => match evEs es (eraseM ((ρ.set tg .non).set tg (.val x))) with
      | .ok vs => mcR (F vs (.dct true kv.1 kv.2))
      | _ => none) items kv) fun p => match storeV .pure ke ((ρ.set tg .non).set i .non) with
      | .ok k => if i ≠ tg ∧ p.2.1.length < cap ∧ keyFits true k = true then asO (putC ρ[i]? (.dct true (putV p.2.1 p.2.2 k (.int (max0 p.1))).1 (putV p.2.1 p.2.2 k (.int (max0 p.1))).2)) fun s => .nx ((ρ.set tg .non).set i s) else .stuck
      | _ => .stuck
  | .retD x j F es, ρ => (evEs es (eraseM ρ)).out ρ fun vs => match F vs (.dct true [] []) with
    | .ok v _ => if v.pure && Val.pures vs then .ret v else .stuck
    | _ => .stuck
def evSs (n : Nat) : Ss → Env → Out
  | .nil, ρ => .nx ρ
  | .cons s ss, ρ => (evS n s ρ).bind fun ρ' => evSs n ss ρ'
end
/-- a def: its parameters, its names (parameters first), its body -/
structure Def where
  name : Str
  pars : List Str
  names : List Str
  body : Ss
def Out.res : Out → Res Val
  | .ret v => .ok v
  | .nx _ => .ok .non
  | .exc c _ => .exc c
  | _ => .stuck
def startE (d : Def) (vs : List Val) : Env := vs.map .val ++ List.replicate (d.names.length - vs.length) .non
def run (n : Nat) (d : Def) (vs : List Val) : Res Val := if vs.length = d.pars.length then (evSs n d.body (startE d vs)).res else .stuck
def FUEL : Nat := 100000
end Lh
namespace Lh
noncomputable section
def d_law_cell : Def := ⟨"_law_cell", ["_law_script", "_law_k"], ["_law_script", "_law_k"],
  (.cons (.ite (.cmp .lt (.var 1) (.b1 .len (.var 0))) (.cons (.ret (.idx (.var 0) (.var 1))) .nil) .nil) (.cons (.ite (.cmp .eq (.var 0) (.lst .nil)) (.cons (.ret (.int 0)) .nil) .nil) (.cons (.ret (.bin .add (.bin .mul (.idx (.var 0) (.bin .mod (.var 1) (.b1 .len (.var 0)))) (.int 31)) (.var 1))) .nil)))⟩
def F_law_cell : List Val → Res Val := run FUEL d_law_cell
def d_law_pick : Def := ⟨"_law_pick", ["_law_script", "_law_k", "_law_many"], ["_law_script", "_law_k", "_law_many", "_law_drawn"],
  (.cons (.asg .plain 3 (.bin .mod (.bin .mul (.bin .add (.call "_law_cell" F_law_cell (.cons (.var 0) (.cons (.var 1) .nil))) (.bin .mul (.int 6151) (.bin .add (.var 1) (.int 1)))) (.int 40692)) (.int 2147483399))) (.cons (.ret (.bin .mod (.bin .mod (.bin .add (.bin .mul (.var 3) (.var 3)) (.bin .fdiv (.var 3) (.int 31))) (.int 2147483629)) (.var 2))) .nil))⟩
def F_law_pick : List Val → Res Val := run FUEL d_law_pick
def d_law_chain : Def := ⟨"_law_chain", ["_law_many"], ["_law_many", "_law_one", "_law_other"],
  (.cons (.ret (.comp (.comp (.b2 .max2 (.var 1) (.var 2)) (.name 2) (.range1 (.var 0)) .no [2]) (.name 1) (.range1 (.var 0)) .no [1])) .nil)⟩
def F_law_chain : List Val → Res Val := run FUEL d_law_chain
def d_law_couples : Def := ⟨"_law_couples", ["_law_one", "_law_other"], ["_law_one", "_law_other", "_law_many", "_law_made", "_law_first", "_law_here", "_law_there", "_law_row"],
  (.cons (.asg .plain 2 (.b1 .len (.var 1))) (.cons (.own2 3 (.lst .nil)) (.cons (.for (.name 5) (.range1 (.bin .mul (.b1 .len (.var 0)) (.var 2))) (.cons (.own .plain 7 (.lst .nil)) (.cons (.for (.name 6) (.range1 (.bin .mul (.b1 .len (.var 0)) (.var 2))) (.cons (.asg .plain 4 (.idx (.idx (.var 0) (.bin .fdiv (.var 5) (.var 2))) (.bin .fdiv (.var 6) (.var 2)))) (.cons (.app .plain 7 (.bin .add (.bin .mul (.var 4) (.var 2)) (.idx (.idx (.var 1) (.bin .mod (.var 5) (.var 2))) (.bin .mod (.var 6) (.var 2))))) .nil)) [4, 6]) (.cons (.appOwn 3 7) .nil))) [4, 5, 6]) (.cons (.ret (.var 3)) .nil))))⟩
def F_law_couples : List Val → Res Val := run FUEL d_law_couples
def d_law_side_by_side : Def := ⟨"_law_side_by_side", ["_law_many"], ["_law_many", "_law_made", "_law_one", "_law_other", "_law_row"],
  (.cons (.own2 1 (.lst .nil)) (.cons (.for (.name 2) (.range1 (.bin .add (.var 0) (.int 2))) (.cons (.own .plain 4 (.lst .nil)) (.cons (.for (.name 3) (.range1 (.bin .add (.var 0) (.int 2))) (.cons (.app .plain 4 (.ife (.or (.cmp .isin (.int 0) (.tup (.cons (.var 2) (.cons (.var 3) .nil)))) (.cmp .eq (.var 2) (.var 3))) (.b2 .max2 (.var 2) (.var 3)) (.bin .add (.var 0) (.int 1)))) .nil) [3]) (.cons (.appOwn 1 4) .nil))) [2, 3]) (.cons (.ret (.var 1)) .nil)))⟩
def F_law_side_by_side : List Val → Res Val := run FUEL d_law_side_by_side
def d_law_base : Def := ⟨"_law_base", ["_law_script", "_law_at"], ["_law_script", "_law_at", "_law_kind", "_law_rows"],
  (.cons (.asg .plain 2 (.call "_law_pick" F_law_pick (.cons (.var 0) (.cons (.var 1) (.cons (.int 9) .nil))))) (.cons (.ite (.cmp .lt (.var 2) (.int 3)) (.cons (.ret (.call "_law_chain" F_law_chain (.cons (.bin .add (.int 1) (.call "_law_pick" F_law_pick (.cons (.var 0) (.cons (.bin .add (.var 1) (.int 1)) (.cons (.int 5) .nil))))) .nil))) .nil) .nil) (.cons (.ite (.cmp .lt (.var 2) (.int 5)) (.cons (.ret (.call "_law_couples" F_law_couples (.cons (.call "_law_chain" F_law_chain (.cons (.int 2) .nil)) (.cons (.call "_law_chain" F_law_chain (.cons (.idx (.lst (.cons (.int 2) (.cons (.int 3) (.cons (.int 4) .nil)))) (.call "_law_pick" F_law_pick (.cons (.var 0) (.cons (.bin .add (.var 1) (.int 1)) (.cons (.int 3) .nil))))) .nil)) .nil)))) .nil) .nil) (.cons (.ite (.cmp .lt (.var 2) (.int 7)) (.cons (.ret (.call "_law_side_by_side" F_law_side_by_side (.cons (.call "_law_pick" F_law_pick (.cons (.var 0) (.cons (.bin .add (.var 1) (.int 1)) (.cons (.int 5) .nil)))) .nil))) .nil) .nil) (.cons (.ite (.cmp .eq (.var 2) (.int 7)) (.cons (.ret (.call "_law_couples" F_law_couples (.cons (.call "_law_chain" F_law_chain (.cons (.int 2) .nil)) (.cons (.call "_law_couples" F_law_couples (.cons (.call "_law_chain" F_law_chain (.cons (.int 2) .nil)) (.cons (.call "_law_chain" F_law_chain (.cons (.int 2) .nil)) .nil))) .nil)))) .nil) .nil) (.cons (.asg .plain 3 (.lst (.cons (.lst (.cons (.int 0) (.cons (.int 1) (.cons (.int 2) (.cons (.int 3) (.cons (.int 4) .nil)))))) (.cons (.lst (.cons (.int 1) (.cons (.int 1) (.cons (.int 2) (.cons (.int 4) (.cons (.int 4) .nil)))))) (.cons (.lst (.cons (.int 2) (.cons (.int 2) (.cons (.int 2) (.cons (.int 4) (.cons (.int 4) .nil)))))) (.cons (.lst (.cons (.int 3) (.cons (.int 4) (.cons (.int 4) (.cons (.int 3) (.cons (.int 4) .nil)))))) (.cons (.lst (.cons (.int 4) (.cons (.int 4) (.cons (.int 4) (.cons (.int 4) (.cons (.int 4) .nil)))))) .nil))))))) (.cons (.ret (.var 3)) .nil)))))))⟩
def F_law_base : List Val → Res Val := run FUEL d_law_base
def d_law_ladder : Def := ⟨"_law_ladder", ["_law_script", "_law_at"], ["_law_script", "_law_at", "_law_base_here", "_law_left", "_law_k", "_law_name", "_law_row", "_law_made", "_law_one", "_law_other"],
  (.cons (.asg .plain 2 (.call "_law_base" F_law_base (.cons (.var 0) (.cons (.var 1) .nil)))) (.cons (.own .plain 3 (.rng (.range1 (.b1 .len (.var 2))))) (.cons (.compPop 5 3 (.call "_law_pick" F_law_pick (.cons (.var 0) (.cons (.bin .add (.bin .add (.var 1) (.int 2)) (.var 4)) (.cons (.b1 .len (.var 3)) .nil)))) 4 (.range1 (.b1 .len (.var 2)))) (.cons (.own2 7 (.comp (.bin .mul (.lst (.cons (.int 0) .nil)) (.b1 .len (.var 2))) (.name 6) (.seq (.var 2)) .no [6])) (.cons (.for (.name 8) (.range1 (.b1 .len (.var 2))) (.cons (.for (.name 9) (.range1 (.b1 .len (.var 2))) (.cons (.set2 7 (.idx (.var 5) (.var 8)) (.idx (.var 5) (.var 9)) (.idx (.var 5) (.idx (.idx (.var 2) (.var 8)) (.var 9)))) .nil) [9]) .nil) [8, 9]) (.cons (.ret (.b1 .tuple (.comp (.b1 .tuple (.var 6)) (.name 6) (.seq (.var 7)) .no [6]))) .nil))))))⟩
def F_law_ladder : List Val → Res Val := run FUEL d_law_ladder
def d_least_of : Def := ⟨"least_of", ["ladder"], ["ladder", "worth"],
  (.cons (.ret (.idx (.comp (.var 1) (.name 1) (.range1 (.b1 .len (.var 0))) (.yes (.cmp .eq (.b1 .list (.idx (.var 0) (.var 1))) (.rng (.range1 (.b1 .len (.var 0)))))) [1]) (.int 0))) .nil)⟩
def F_least_of : List Val → Res Val := run FUEL d_least_of
def d_joined_all : Def := ⟨"joined_all", ["ladder", "worths"], ["ladder", "worths", "made", "worth"],
  (.cons (.asg .plain 2 (.call "least_of" F_least_of (.cons (.var 0) .nil))) (.cons (.for (.name 3) (.seq (.var 1)) (.cons (.asg .plain 2 (.idx (.idx (.var 0) (.var 2)) (.var 3))) .nil) [3]) (.cons (.ret (.var 2)) .nil)))⟩
def F_joined_all : List Val → Res Val := run FUEL d_joined_all
def d_greatest_of : Def := ⟨"greatest_of", ["ladder"], ["ladder"],
  (.cons (.ret (.call "joined_all" F_joined_all (.cons (.var 0) (.cons (.rng (.range1 (.b1 .len (.var 0)))) .nil)))) .nil)⟩
def F_greatest_of : List Val → Res Val := run FUEL d_greatest_of
def d_is_below : Def := ⟨"is_below", ["ladder", "one", "other"], ["ladder", "one", "other"],
  (.cons (.ret (.cmp .eq (.idx (.idx (.var 0) (.var 1)) (.var 2)) (.var 2))) .nil)⟩
def F_is_below : List Val → Res Val := run FUEL d_is_below
def d_below : Def := ⟨"below", ["ladder", "worth"], ["ladder", "worth", "one"],
  (.cons (.ret (.comp (.var 2) (.name 2) (.range1 (.b1 .len (.var 0))) (.yes (.call "is_below" F_is_below (.cons (.var 0) (.cons (.var 2) (.cons (.var 1) .nil))))) [2])) .nil)⟩
def F_below : List Val → Res Val := run FUEL d_below
def d_law_low : Def := ⟨"_law_low", ["_law_ladder_here"], ["_law_ladder_here", "_law_worth"],
  (.cons (.ret (.idx (.comp (.var 1) (.name 1) (.range1 (.b1 .len (.var 0))) (.yes (.cmp .eq (.b1 .list (.idx (.var 0) (.var 1))) (.rng (.range1 (.b1 .len (.var 0)))))) [1]) (.int 0))) .nil)⟩
def F_law_low : List Val → Res Val := run FUEL d_law_low
def d_law_join : Def := ⟨"_law_join", ["_law_ladder_here", "_law_worths"], ["_law_ladder_here", "_law_worths", "_law_here", "_law_worth"],
  (.cons (.asg .plain 2 (.call "_law_low" F_law_low (.cons (.var 0) .nil))) (.cons (.for (.name 3) (.seq (.var 1)) (.cons (.asg .plain 2 (.idx (.idx (.var 0) (.var 2)) (.var 3))) .nil) [3]) (.cons (.ret (.var 2)) .nil)))⟩
def F_law_join : List Val → Res Val := run FUEL d_law_join
def d_law_under : Def := ⟨"_law_under", ["_law_ladder_here", "_law_worth"], ["_law_ladder_here", "_law_worth", "_law_one"],
  (.cons (.ret (.comp (.var 2) (.name 2) (.range1 (.b1 .len (.var 0))) (.yes (.cmp .eq (.idx (.idx (.var 0) (.var 2)) (.var 1)) (.var 1))) [2])) .nil)⟩
def F_law_under : List Val → Res Val := run FUEL d_law_under
def d_law_k02 : Def := ⟨"law", ["_law_script"], ["_law_script", "_law_ladder_here", "_law_every", "_law_low_here", "_law_worth", "_law_high", "_law_one", "_law_other", "_law_k", "_law_worths"],
  (.cons (.asg .plain 1 (.call "_law_ladder" F_law_ladder (.cons (.var 0) (.cons (.int 0) .nil)))) (.cons (.asg .plain 2 (.rng (.range1 (.b1 .len (.var 1))))) (.cons (.asg .plain 3 (.call "_law_low" F_law_low (.cons (.var 1) .nil))) (.cons (.asg .plain 5 (.comp (.var 4) (.name 4) (.seq (.var 2)) (.yes (.cmp .eq (.call "_law_under" F_law_under (.cons (.var 1) (.cons (.var 4) .nil))) (.var 2))) [4])) (.cons (.ite (.or (.cmp .ne (.call "least_of" F_least_of (.cons (.var 1) .nil)) (.var 3)) (.cmp .ne (.lst (.cons (.call "greatest_of" F_greatest_of (.cons (.var 1) .nil)) .nil)) (.var 5))) (.cons (.ret (.bool false)) .nil) .nil) (.cons (.for (.name 6) (.seq (.var 2)) (.cons (.ite (.cmp .ne (.call "below" F_below (.cons (.var 1) (.cons (.var 6) .nil))) (.call "_law_under" F_law_under (.cons (.var 1) (.cons (.var 6) .nil)))) (.cons (.ret (.bool false)) .nil) .nil) (.cons (.for (.name 7) (.seq (.var 2)) (.cons (.ite (.cmp .ne (.call "is_below" F_is_below (.cons (.var 1) (.cons (.var 6) (.cons (.var 7) .nil)))) (.cmp .eq (.idx (.idx (.var 1) (.var 6)) (.var 7)) (.var 7))) (.cons (.ret (.bool false)) .nil) .nil) .nil) [7]) .nil)) [6, 7]) (.cons (.asg .plain 9 (.comp (.call "_law_pick" F_law_pick (.cons (.var 0) (.cons (.bin .add (.int 20) (.var 8)) (.cons (.b1 .len (.var 1)) .nil)))) (.name 8) (.range1 (.call "_law_pick" F_law_pick (.cons (.var 0) (.cons (.int 19) (.cons (.int 5) .nil))))) .no [8])) (.cons (.ite (.or (.cmp .ne (.call "joined_all" F_joined_all (.cons (.var 1) (.cons (.var 9) .nil))) (.call "_law_join" F_law_join (.cons (.var 1) (.cons (.var 9) .nil)))) (.cmp .ne (.call "joined_all" F_joined_all (.cons (.var 1) (.cons (.lst .nil) .nil))) (.var 3))) (.cons (.ret (.bool false)) .nil) .nil) (.cons (.ret (.and (.cmp .eq (.call "joined_all" F_joined_all (.cons (.var 1) (.cons (.var 2) .nil))) (.idx (.var 5) (.int 0))) (.cmp .eq (.call "joined_all" F_joined_all (.cons (.var 1) (.cons (.rev (.var 9)) .nil))) (.call "joined_all" F_joined_all (.cons (.var 1) (.cons (.var 9) .nil)))))) .nil)))))))))⟩
def F_law_k02 : List Val → Res Val := run FUEL d_law_k02
end
end Lh
set_option Elab.async false
set_option linter.all false
set_option maxRecDepth 100000
set_option maxHeartbeats 4000000
namespace Lh
open PySem PySem.Spec PyProof.Rows L2
theorem tuple_mul1 (l : Addr) (items : Array Value) (n : Nat) (dd : Option Addr) (sl : Array (Option Value)) (x : Int) (u : Tok) (c0 : (decide (x < -(2 ^ 63)) || decide (x ≥ 2 ^ 63)) = false) (c1 : (items.isEmpty || x == 1) = true) :
    Meets (Builtin.«tuple.__mul__» ⟨[.ref l, .int x u], []⟩) (fun _ R s => s.heap.get? l = some { cls := .type "tuple", dict := dd, data := .seq items n, slots := sl } ∧
      R (.ok (.ret (Value.ref l))) s) :=
  .of_wp fun prog w A R s h => by
    obtain ⟨hp, g, d, tk, os⟩ := s
    obtain ⟨hl, h⟩ := h
    have f1 := AutoSeq1.idx_int
    wp_walk using wpAny_loadPart' hl
    repeat (first
      | (refine wpAny_ite_false (decide_eq_false (by rw [c0]; exact Bool.false_ne_true)) ?_; wp_walk using wpAny_loadPart' hl)
      | (refine wpAny_ite_true (decide_eq_true (by rw [c1])) ?_; wp_walk using wpAny_loadPart' hl))
    exact ⟨_, rfl, h⟩
theorem tuple_mul0 (l : Addr) (items : Array Value) (n : Nat) (dd : Option Addr) (sl : Array (Option Value)) (x : Int) (u : Tok) (c0 : (decide (x < -(2 ^ 63)) || decide (x ≥ 2 ^ 63)) = false) (c1 : (items.isEmpty || x == 1) = false) (c2 : (decide (x ≤ 0) || items.isEmpty) = true) :
    Meets (Builtin.«tuple.__mul__» ⟨[.ref l, .int x u], []⟩) (fun _ R s => s.heap.get? l = some { cls := .type "tuple", dict := dd, data := .seq items n, slots := sl } ∧
      R (.ok (.ret (Value.ref s.heap.objs.size))) { s with heap := s.heap.push { cls := Value.type "tuple", data := Data.seq #[] }, toks := s.toks }) :=
  .of_wp fun prog w A R s h => by
    obtain ⟨hp, g, d, tk, os⟩ := s
    obtain ⟨hl, h⟩ := h
    have f1 := AutoSeq1.idx_int
    wp_walk using wpAny_loadPart' hl
    repeat (first
      | (refine wpAny_ite_false (decide_eq_false (by rw [c0]; exact Bool.false_ne_true)) ?_; wp_walk using wpAny_loadPart' hl)
      | (refine wpAny_ite_false (decide_eq_false (by rw [c1]; exact Bool.false_ne_true)) ?_; wp_walk using wpAny_loadPart' hl)
      | (refine wpAny_ite_true (decide_eq_true (by rw [c2])) ?_; wp_walk using wpAny_loadPart' hl))
    exact ⟨_, rfl, h⟩
end Lh
set_option Elab.async false
set_option linter.all false
set_option maxRecDepth 100000
set_option maxHeartbeats 4000000
namespace Lh
open PySem PySem.Spec PyProof.Rows L2
def rRep1 (K : PySem.W.Frag) : R2 := fun x y H Q => ∃ l k xs, x = .ref l ∧ y = .int k ∧ SqT K H l xs ∧ -(2 ^ 63) ≤ k ∧ k < 2 ^ 63 ∧ (xs = [] ∨ k = 1) ∧ Q (.ref l) H
def rRep0 (K : PySem.W.Frag) : R2 := fun x y H Q => ∃ l k xs, x = .ref l ∧ y = .int k ∧ SqT K H l xs ∧ -(2 ^ 63) ≤ k ∧ k ≤ 0 ∧ xs ≠ [] ∧ ∀ p, H p = none → Q (.ref p) (upd H p (.tup []))
section
variable {X : Cx}
theorem op_rep1 : OpR X (binaryOp .Mult) (rRep1 X.K) := by
  intro pins s σ H x y v u Q I rx ry h
  obtain ⟨l, k, xs, rfl, rfl, hT, h1, h2, hz, q⟩ := h
  cases rx
  obtain ⟨t, rfl⟩ := ry
  obtain ⟨its, r, ⟨⟨cls, dd, data, sl⟩, ho, hc, n, hd⟩, hs⟩ := I.tuple hT
  simp only at hc hd
  subst hc hd
  have hle : its.length = xs.length := r.length.symm
  have c0 : (decide (k < -(2 ^ 63)) || decide (k ≥ 2 ^ 63)) = false := by
    rw [decide_eq_false (by omega), decide_eq_false (by omega)] <;> rfl
  have c1 : (its.toArray.isEmpty || k == 1) = true := by
    rcases hz with rfl | rfl
    · have e : its = [] := List.eq_nil_of_length_eq_zero hle
      subst e
      rfl
    · rw [show ((1 : Int) == 1) = true from rfl, Bool.or_true]
  refine wpAny_binaryOp_repeat_ref (T := "tuple") (U := "int") (by decide) ⟨_, ho, rfl⟩ (fun s' => typeIs_int s' k t) noFill_tuple_mul F.fills_int_mul F.slot_int_rmul repeat_tuple F.slot_int_index.lookup
    (call_meets F.slot_int_rmul (typeIs_int s k t) F.entry_int_rmul (F.args_int_rmul_2 _ _) (int_rmul_tuple k t l its.toArray n dd sl)
      ⟨ho, rfl, ⟨_, ho, rfl⟩, call_meets F.slot_tuple_mul ⟨_, ho, rfl⟩ F.entry_tuple_mul (F.args_tuple_mul_2 _ _) (tuple_mul1 l its.toArray n dd sl k t c0 c1) ⟨ho, ?_⟩⟩)
  exact ⟨.ref l, H, I, rfl, q⟩
theorem op_rep0 : OpR X (binaryOp .Mult) (rRep0 X.K) := by
  intro pins s σ H x y v u Q I rx ry h
  obtain ⟨l, k, xs, rfl, rfl, hT, h1, h2, hz, q⟩ := h
  cases rx
  obtain ⟨t, rfl⟩ := ry
  obtain ⟨its, r, ⟨⟨cls, dd, data, sl⟩, ho, hc, n, hd⟩, hs⟩ := I.tuple hT
  simp only at hc hd
  subst hc hd
  have hle : its.length = xs.length := r.length.symm
  have hi : its.toArray.isEmpty = false := by
    cases its with
    | nil => exact absurd (List.eq_nil_of_length_eq_zero hle.symm) hz
    | cons a b => rfl
  have c0 : (decide (k < -(2 ^ 63)) || decide (k ≥ 2 ^ 63)) = false := by
    rw [decide_eq_false (by omega), decide_eq_false (by omega)] <;> rfl
  have c1 : (its.toArray.isEmpty || k == 1) = false := by
    rw [hi, Bool.false_or]
    exact beq_eq_false_iff_ne.mpr (by omega)
  have c2 : (decide (k ≤ 0) || its.toArray.isEmpty) = true := by
    rw [decide_eq_true h2, Bool.true_or]
  refine wpAny_binaryOp_repeat_ref (T := "tuple") (U := "int") (by decide) ⟨_, ho, rfl⟩ (fun s' => typeIs_int s' k t) noFill_tuple_mul F.fills_int_mul F.slot_int_rmul repeat_tuple F.slot_int_index.lookup
    (call_meets F.slot_int_rmul (typeIs_int s k t) F.entry_int_rmul (F.args_int_rmul_2 _ _) (int_rmul_tuple k t l its.toArray n dd sl)
      ⟨ho, rfl, ⟨_, ho, rfl⟩, call_meets F.slot_tuple_mul ⟨_, ho, rfl⟩ F.entry_tuple_mul (F.args_tuple_mul_2 _ _) (tuple_mul0 l its.toArray n dd sl k t c0 c1 c2) ⟨ho, ?_⟩⟩)
  exact ⟨.ref s.heap.objs.size, _, I.laid (t' := s.toks) (o := .tup []) (fun b ob q => Heap.get?_push_of_some _ q) (Nat.le_refl _) ⟨Nat.zero_le _, [], .nil, IsTup.new _ _⟩, rfl, q _ (I.hok.fresh (Nat.le_refl _))⟩
end
end Lh
set_option Elab.async false
set_option linter.all false
set_option maxRecDepth 100000
set_option maxHeartbeats 4000000
namespace Lh
open PySem PySem.Spec PyProof.Rows L2 HT
section
variable {prog : Program} {w : World} {A : Around} {E : Value → Shared → Prop} {s : Shared}
theorem rev_places (n : Nat) : Builtin.Slice.slicePlaces ((n : Int) - 1) (-1) (-1) = n := by
  unfold Builtin.Slice.slicePlaces
  rw [if_neg (by decide)]
  by_cases h : n = 0
  · subst h
    rfl
  · rw [if_pos (by omega)]
    show (((n : Int) - 1 - -1 - 1) / 1 + 1).toNat = n
    rw [Int.ediv_one]
    omega
theorem rev_pick (xs : Array Value) : ((List.range xs.size).filterMap fun (k : Nat) => xs[((xs.size : Int) - 1 + (k : Int) * -1).toNat]?).toArray = xs.toList.reverse.toArray := by
  congr 1
  have key : ∀ k, k ≤ xs.size → ((List.range k).filterMap fun (k : Nat) => xs[((xs.size : Int) - 1 + (k : Int) * -1).toNat]?) = xs.toList.reverse.take k := by
    intro k
    induction k with
    | zero => intro _; rfl
    | succ k ih =>
      intro hk
      rw [List.range_succ, List.filterMap_append, ih (by omega)]
      have e1 : ((xs.size : Int) - 1 + (k : Int) * -1).toNat = xs.size - 1 - k := by omega
      have h2 : xs.size - 1 - k < xs.size := by omega
      have h3 : k < xs.toList.reverse.length := by rw [List.length_reverse, Array.length_toList]; omega
      rw [List.take_succ_eq_append_getElem h3]
      congr 1
      simp only [List.filterMap_cons, List.filterMap_nil, e1, Array.getElem?_eq_getElem h2]
      rw [List.getElem_reverse]
      simp only [Array.getElem_toList, Array.length_toList]
  have := key xs.size (Nat.le_refl _)
  rw [this, List.take_of_length_le (by rw [List.length_reverse, Array.length_toList]; exact Nat.le_refl _)]
theorem getItem_tuple_rev {t sl : Addr} {items : Array Value} {vl vu vs : Value} {Q : Value → Shared → Prop} (ht : IsTup s.heap t items) (hs : s.heap.IsSliceOf sl vl vu vs) (pl : IsPart vl none) (pu : IsPart vu none) (ps : IsPart vs (some (-1)))
    (h : Q (.ref s.heap.objs.size) { s with heap := s.heap.push { cls := .type "tuple", data := .seq items.toList.reverse.toArray } })
    (hsz : items.size ≤ sizeLine) : wpAny (model prog w) A (getItem (.ref t) (.ref sl)) Q E s := by
  have htake : sizeOk (.seq items.toList.reverse.toArray) := by
    show items.toList.reverse.toArray.size ≤ sizeLine
    rw [List.size_toArray, List.length_reverse, Array.length_toList]
    omega
  obtain ⟨os, hos, hcs, hds⟩ := id hs
  have hTs : s.TypeIs (.ref sl) "slice" := ⟨os, hos, hcs⟩
  unfold getItem
  try with_reducible refine wpAny_holding ?_
  first | refine wpAny_bind (wpAny_pure ?_) | skip
  refine wpAny_bind (wpAny_sequenceKey ht.typeIs (by decide) ?_)
  refine wpAny_bind (wpAny_callSpecial?_slot (name := Str.ofString "__getitem__") ht.typeIs PyProof.Rows.slot_tuple_getitem
    (wpAny_call_entry PyProof.Rows.slot_tuple_getitem ht.typeIs entry_tuple_getitem ?_ (args_tuple_getitem _ _)))
  show wpAny _ _ (Builtin.Tuple.tupleItemsOf (.ref t) >>= _) _ _ s
  refine wpAny_bind (tupleItemsOf_ ht ?_)
  refine wpAny_bind (wpAny_typeOf hTs ?_)
  rw [if_pos (by decide)]
  refine wpAny_bind ?_
  unfold Builtin.Slice.sliceApplied Builtin.Slice.sliceFields
  refine wpAny_bind (wpAny_bind (wpAny_field hos hds (x := vl) rfl (wpAny_bind (wpAny_field hos hds (x := vu) rfl (wpAny_bind (wpAny_field hos hds (x := vs) rfl (wpAny_pure ?_)))))))
  refine wpAny_bind (slicePart_ ps ?_)
  show wpAny _ _ (if ((-1 : Int) == 0) = true then _ else _) _ _ s
  rw [if_neg (by decide)]
  refine wpAny_bind (slicePart_ pl (wpAny_bind (slicePart_ pu (wpAny_bind (wpAny_pure ?_)))))
  show wpAny _ _ (pure (((items.size : Nat) : Int) - 1, (-1 : Int), Builtin.Slice.slicePlaces (((items.size : Nat) : Int) - 1) (-1) (-1))) _ _ s
  rw [rev_places]
  refine wpAny_pure ?_
  have hno : ¬ ((((items.size : Nat) : Int) - 1 == 0 && (-1 : Int) == 1 && items.size == items.size) = true) := by
    intro q
    rw [Bool.and_eq_true, Bool.and_eq_true] at q
    exact absurd q.1.2 (by decide)
  show wpAny _ _ (if (((items.size : Nat) : Int) - 1 == 0 && (-1 : Int) == 1 && items.size == items.size) = true then _ else _) _ _ s
  rw [if_neg hno, rev_pick]
  first
    | exact wpAny_bind (m := Builtin.Tuple.tupleExact _) (wpAny_newObj_type (wpAny_pure ⟨_, rfl, wpAny_pure h⟩) htake)
    | exact wpAny_bind (m := Builtin.Tuple.tupleExact _) (wpAny_newObj_type (wpAny_bind (wpAny_pure (wpAny_pure ⟨_, rfl, wpAny_pure h⟩))) htake)
    | exact wpAny_bind (wpAny_bind (m := Builtin.Tuple.tupleExact _) (wpAny_newObj_type (wpAny_pure (wpAny_pure ⟨_, rfl, wpAny_pure h⟩)) htake))
    | exact wpAny_bind (wpAny_bind (m := Builtin.Tuple.tupleExact _) (wpAny_newObj_type (wpAny_pure ⟨_, rfl, wpAny_pure h⟩) htake))
end
section
variable {X : Cx}
/-- xs[::-1], xs a list or a tuple -/
def tRevA (K : PySem.W.Frag) (te : TE) : TE := fun σ H Q => te σ H fun x H1 => ∃ a xs, x = .ref a ∧ ((SqL K H1 a xs ∧ ∀ p, H1 p = none → Q (.ref p) (upd H1 p (.lst xs.reverse))) ∨ (SqT K H1 a xs ∧ ∀ p, H1 p = none → Q (.ref p) (upd H1 p (.tup xs.reverse))))
theorem pe_revA {e : Expr} {te : TE} {k : Nat} {p1 p2 p3 pos : Pos} (he : PE X e te) : PE X (.Subscript e (.Slice none none (some (.UnaryOp .USub (.Constant (.int 1) k p1) p2)) p3) pos) (tRevA X.K te) := by
  refine ⟨fun pins s σ H Q I h => ?_⟩
  refine Subscript_ (thn (he.run pins s σ H _ I h) fun v s1 ⟨x, H1, I1, r1, q1⟩ => ?_)
  obtain ⟨a, xs, ex, q⟩ := q1
  subst ex
  cases r1
  have hst : PO X (some (.UnaryOp .USub (.Constant (.int 1) k p1) p2)) (tPart (tUn (rU fun i => .int (-i)) (tC (.int 1)))) := po_some (pe_un un_neg pe_int)
  refine wpAny_Slice (thn (po_none.run pins s1 σ H1 (fun o H2 => o = none ∧ H2 = H1) I1 ⟨rfl, rfl⟩) fun vl s2 ⟨l, H2, I2, pl, el, e2⟩ => ?_)
  subst el e2
  refine thn (po_none.run pins s2 σ H2 (fun o H3 => o = none ∧ H3 = H2) I2 ⟨rfl, rfl⟩) fun vu s3 ⟨u, H3, I3, pu, eu, e3⟩ => ?_
  subst eu e3
  refine thn (hst.run pins s3 σ H3 (fun o H4 => o = some (-1) ∧ H4 = H3) I3 ⟨1, rfl, -1, rfl, rfl, rfl⟩) fun vs s4 ⟨o, H4, I4, ps, eo, e4⟩ => ?_
  subst eo e4
  have I5 : Inv X pins σ H4 { s4 with heap := s4.heap.push { cls := .type "slice", data := .fields #[vl, vu, vs] } } := I4.kept (t' := s4.toks) fun b ob q => Heap.get?_push_of_some _ q
  show wpAny (model X.prog X.w) X.A (subscriptTail e (.Slice none none (some (.UnaryOp .USub (.Constant (.int 1) k p1) p2)) p3) (.ref a) (.ref s4.heap.objs.size)) (EP X pins σ Q) X.xe { s4 with heap := s4.heap.push { cls := .type "slice", data := .fields #[vl, vu, vs] } }
  rcases q with ⟨hx, q⟩ | ⟨hx, q⟩
  · obtain ⟨its, r, ht, hz⟩ := I5.list hx
    have hlen := r.length
    refine tail_any (ops := [.ref a, .ref s4.heap.objs.size]) ht.isList.typeIs (PySem.slot_list_getitem.lookup) ?_ (by with_unfolding_all rfl)
    refine wpAny_getItem_list_slice ht.isList (Heap.IsSliceOf.new _ vl vu vs) pl pu ps (by decide) ?_ (by rw [List.size_toArray]; omega)
    rw [PySem.W.krv_pick]
    refine ⟨.ref _, _, I5.laid (t' := s4.toks) (o := .lst xs.reverse) (fun b ob q => Heap.get?_push_of_some _ q) (Nat.le_refl _) ?_, rfl, q _ (I5.hok.fresh (Nat.le_refl _))⟩
    exact ⟨by rw [List.length_reverse]; exact hz, _, 0, r.reverse, Heap.get?_push_size _ rfl⟩
  · obtain ⟨its, r, ht, hz⟩ := I5.tuple hx
    have hlen := r.length
    refine tail_any (ops := [.ref a, .ref s4.heap.objs.size]) ht.typeIs (PyProof.Rows.slot_tuple_getitem.lookup) ?_ (by with_unfolding_all rfl)
    refine getItem_tuple_rev ht (Heap.IsSliceOf.new _ vl vu vs) pl pu ps ?_ (by rw [List.size_toArray]; omega)
    refine ⟨.ref _, _, I5.laid (t' := s4.toks) (o := .tup xs.reverse) (fun b ob q => Heap.get?_push_of_some _ q) (Nat.le_refl _) ?_, rfl, q _ (I5.hok.fresh (Nat.le_refl _))⟩
    exact ⟨by rw [List.length_reverse]; exact hz, _, r.reverse, IsTup.new _ _⟩
end
end Lh
set_option Elab.async false
set_option linter.all false
set_option maxRecDepth 100000
set_option maxHeartbeats 4000000
namespace Lh
open PySem PySem.Spec PyProof.Rows L2
theorem setR_card {w : World} {h : Heap} {a : Addr} {S : Int → Bool} {n : Nat} (R : SetR w h a S n) {m : List Int} (nd : m.Nodup) (hm : ∀ k, k ∈ m ↔ S k = true) : n = m.length := by
  obtain ⟨o, es, ep, t, ho, hex, hd, _, kd, km, _, _, hn, _⟩ := R
  have e : (es.toList.map keyOf).length = m.length := Nat.le_antisymm
    (kd.length_le_of_subset fun k hk => (hm k).mpr ((km k).mpr hk))
    (nd.length_le_of_subset fun k hk => (km k).mp ((hm k).mp hk))
  rw [← hn, ← e, List.length_map, Array.length_toList]
section
variable {X : Cx}
def tLenSetT (K : PySem.W.Frag) (ta : TE) : TE := fun σ H Q => ta σ H fun x H1 => ∃ (l : Addr) (ns m : List Int), x = V.ref l ∧ SqT K H1 l (ns.map V.int) ∧ ns.length < 64 ∧ m.Nodup ∧ (∀ k, k ∈ m ↔ k ∈ ns) ∧ Q (.int (m.length : Nat)) H1
theorem pe_lenSetT {a : Expr} {ta : TE} {p p2 q pos : Pos} (hc : X.calm = true) (hg : Gl X "len") (hm : X.mg "len" = none) (hg2 : Gl X "set") (hm2 : X.mg "set" = none) (ha : PE X a ta)
    (na : starEach [a] X.env = (false, eval a X.env) :: starEach [] X.env) : PE X (.Call (.Name "len" p) [.Call (.Name "set" p2) [a] [] q] [] pos) (tLenSetT X.K ta) := by
  refine ⟨fun pins s σ H Q I h => ?_⟩
  refine Call_ (ld_blt I hg hm PySem.boot_len ?_)
  refine PyProof.Rows.callWith_builtin1 (PyProof.Rows.args_cons ?_ rfl) rfl rfl
  refine Call_ (ld_blt I hg2 hm2 PyProof.Rows.boot_set ?_)
  refine PyProof.Rows.callWith_type1 (PyProof.Rows.args_cons (thn (ha.run pins s σ H _ I h) fun v s1 ⟨x, H1, I1, r1, q1⟩ => PyProof.Rows.args_nil ?_) na) na rfl
  obtain ⟨l, ns, m, rfl, hq, h1, nd, mem, q1⟩ := q1
  cases r1
  obtain ⟨its, r, hT, hz⟩ := I1.tuple hq
  refine call_set_tupI (P := X.prog) (w := X.w) ns (I1.ok.hd hc) hT (by simpa using r.ints) (by unfold scanBound; omega) fun h' tk c R hle hk => ?_
  have hcard : c = m.length := setR_card R nd fun k => by rw [mem k, decide_eq_true_eq]
  refine PyProof.Rows.args_nil ?_
  obtain ⟨o, es, ep, t, ho, hex, hd, _, _, _, _, hf, hn, _⟩ := R
  have I2 : Inv X pins σ H1 { s1 with heap := h', toks := tk } := I1.kept fun b o e => hk b o e
  refine PySem.call_len_set ho hex hd hf (by rw [hn] <;> omega) ⟨.int m.length, H1, I2.tok _, ⟨_, by rw [hn, hcard]⟩, q1⟩
end
def setEmpty (w : World) : Obj := { cls := .type "set", dict := none, data := .set #[] 0 (.fresh 0 0 (!w.params.followText "set-order")) }
section
variable {P : Program} {w : World} {A : Around} {E : Value → Shared → Prop} {s : Shared}
set_option maxHeartbeats 3200000 in
theorem set_lst {l : Addr} {items : Array Value} (ns : List Int) {Q : Value → Shared → Prop} (hh : A.handled = none) (hl : s.heap.IsList l items) (hit : IntsAre items.toList ns) (hb : ns.length + 1 < scanBound)
    (h : ∀ (h' : Heap) (tk c : Nat), SetR w h' s.heap.objs.size (fun j => decide (j ∈ ns)) c → c ≤ ns.length → (∀ b o, s.heap.get? b = some o → h'.get? b = some o) → Q (.ref s.heap.objs.size) { s with heap := h', toks := tk }) :
    wpAny (model P w) A (call (.type "set") [.ref l]) Q E s := by
  have hisz : items.size = ns.length := by
    have q := IntsAre.length hit
    rwa [Array.length_toList] at q
  obtain ⟨c, tl, hmro⟩ := F.called_set.mro
  have hmade := F.called_set.made
  have hsub := F.called_set.sub
  refine wpAny_call (codeAny_of_tree ?_)
  show wpAny _ _ (callAny (.type "set") _) _ _ _
  refine wpAny_pure ⟨Code.quiet_builtin _ (by decide +kernel), codeAny_builtin F.entry_type_call ?_⟩
  rw [Around.under_plain (weight_type_call_type "set" [.ref l] []) rfl]
  have h1 := F.called_set.notType
  have h2 := F.called_set.canCreate
  have hct := F.typeCall_set_1 (.ref l)
  repeat (any_goals (first | assumption | wp_step))
  have hn1 : ∀ o, s.heap.get? l = some o → (s.heap.push (setEmpty w)).get? l = some o := fun o e => Heap.get?_push_of_some _ e
  have hS : (s.heap.push (setEmpty w)).get? s.heap.objs.size = some (setEmpty w) := Heap.get?_push_size _ rfl
  have hz : (s.heap.push (setEmpty w)).objs.size = s.heap.objs.size + 1 := Heap.size_push ..
  refine codeAny_mono (code_set_led1 (.ref l) (E := E) (Q₁ := fun obj s₁ => obj = .ref s.heap.objs.size ∧ s₁ = { s with heap := s.heap.push (setEmpty w) }) ⟨rfl, rfl⟩) fun r s₁ hr => ?_
  cases r with
  | error e => exact hr
  | ok fl =>
    cases fl with
    | ret obj =>
      obtain ⟨rfl, rfl⟩ := hr
      have hT : Shared.TypeIs { s with heap := s.heap.push (setEmpty w) } (.ref s.heap.objs.size) "set" := ⟨_, hS, rfl⟩
      have hli := F.called_set.init.lookup
      have hbi := F.called_set.init.bind (.ref s.heap.objs.size)
      repeat (any_goals (first | assumption | wp_step))
      refine codeAny_mono (codeAny_call_builtin (R := wants (fun r s₂ => r = .none ∧ ∃ h' tk c, s₂ = { s with heap := h', toks := tk } ∧ SetR w h' s.heap.objs.size (fun j => decide (j ∈ ns)) c ∧ c ≤ ns.length ∧
          (∀ b o, s.heap.get? b = some o → h'.get? b = some o)) E) F.called_set.init.plain F.entry_set_init (check_set_init_1 hT ?_)) fun r₂ s₂ hr₂ => ?_
      · obtain ⟨⟨ocls, odict, odata, oslots⟩, hol, hcl, nl, hdl⟩ := hl
        simp only at hcl hdl
        subst hcl; subst hdl
        have hol' := hn1 _ hol
        have hsls := F.sub_list_set
        have hslf := F.sub_list_frozenset
        have hne : (Value.type "list" == Value.type "dict") = false := by decide
        have hl1 : (s.heap.push (setEmpty w)).IsList l items := ⟨_, hol', rfl, nl, rfl⟩
        unfold Builtin.«set.__init__» noKeywords Builtin.Frozenset.updateFrom
        generalize hPI : pyIter = PI
        wp_walk
        subst hPI
        refine wpAny_pyIter_list hl1 ?_
        refine wpAny_bind (wpAny_runValue ?_)
        have hlS : l < s.heap.objs.size := Heap.lt_size hol
        have hh3 : A.in1.in1.in1.handled = none := by simp [hh]
        have hneI : l ≠ (s.heap.push (setEmpty w)).objs.size := by
          rw [hz]
          exact Nat.ne_of_lt (Nat.lt_succ_of_lt hlS)
        have hSf : s.heap.objs.size ∉ [(s.heap.push (setEmpty w)).objs.size, l] := by
          simp only [List.mem_cons, List.not_mem_nil, or_false, not_or]
          rw [hz]
          exact ⟨Nat.ne_of_lt (Nat.lt_succ_self _), Nat.ne_of_gt hlS⟩
        have hval : ∀ (i : Nat) (v : Value), items[i]? = some v → ∃ k t, ns[i]? = some k ∧ v = .int k t := fun i v hv => by
          have hi : i < ns.length := by rw [← hisz]; exact (Array.getElem?_eq_some_iff.mp hv).1
          obtain ⟨t, e⟩ := IntsAre.int_at hit i v (by rw [Array.getElem?_toList]; exact hv)
          refine ⟨ns[i], t, List.getElem?_eq_getElem hi, ?_⟩
          rw [e, List.getD_eq_getElem?_getD, List.getElem?_eq_getElem hi] <;> rfl
        refine set_update_ints ((Walks.list hh3 _ l hneI items).toS) s.heap.objs.size hSf ns hisz hb hval (items.size - 0) 0 _ (by omega) (Nat.zero_le _)
          ⟨⟨_, Heap.get?_push_size _ rfl, rfl, rfl⟩, (hl1.push _)⟩ ⟨0, Nat.le_refl 0, setR_new_at (Heap.get?_push_of_some _ hS)⟩ ?_
        intro s' c' hm hc' hS'
        obtain ⟨h', g2, d', tk', os'⟩ := s'
        have eg : g2 = s.gens := hm.gens
        have ed : d' = s.drawn := hm.drawn
        have eo : os' = s.os := hm.os
        subst eg; subst ed; subst eo
        show wpAny _ _ _ _ _ _
        refine wpAny_pure ?_
        show wpAny _ _ (ret Value.none) _ _ _
        refine wpAny_pure ⟨rfl, h', tk', c', rfl, hS', by omega, fun b o e => ?_⟩
        have hb0 : b < s.heap.objs.size := Heap.lt_size e
        refine hm.heap b o ?_ (Heap.get?_push_of_some _ (Heap.get?_push_of_some _ e))
        simp only [List.mem_cons, List.not_mem_nil, or_false, not_or]
        exact ⟨Nat.ne_of_lt hb0, Nat.ne_of_lt (by rw [show ({ s with heap := s.heap.push (setEmpty w) } : Shared).heap.objs.size = s.heap.objs.size + 1 from hz]; exact Nat.lt_succ_of_lt hb0)⟩
      · cases r₂ with
        | error e => exact hr₂
        | ok fl₂ =>
          cases fl₂ with
          | ret r =>
            obtain ⟨rfl, h', tk, c', rfl, hS', hc', hk'⟩ := hr₂
            repeat (any_goals (first | assumption | wp_step))
            exact h _ _ _ hS' hc' hk'
          | _ => exact hr₂.elim
    | _ => exact hr.elim
end
end Lh
set_option Elab.async false
set_option linter.all false
set_option maxRecDepth 100000
set_option maxHeartbeats 4000000
namespace Lh
open PySem PySem.Spec PyProof.Rows L2
abbrev Itm := Int ⊕ List Int
section
variable {P : Program} {w : World} {A : Around} {E : Value → Shared → Prop} {s : Shared}
def IsItm (P : Program) (w : World) (h : Heap) : Itm → Value → Prop
  | .inl i, v => ∃ t, v = Value.int i t
  | .inr ns, v => ∃ b, v = Value.ref b ∧ IsT P w h ns b
def itHash (P : Program) (w : World) : Itm → Int
  | .inl i => (intKind P w).hash i
  | .inr ns => thash P w ns
def nHash (P : Program) (w : World) (k : List Itm) : Int := reduceHash (Builtin.Tuple.tupleHashOf (k.map (itHash P w)))
abbrev Its (P : Program) (w : World) (h : Heap) : List Itm → List Value → Prop := Paired (IsItm P w h)
/-- the tuple at a has the items k -/
structure IsN (P : Program) (w : World) (sh : List Bool) (h : Heap) (k : List Itm) (a : Addr) : Prop where
  ob : ∃ o items n, h.get? a = some o ∧ o.cls = .type "tuple" ∧ o.data = .seq items n ∧ Its P w h k items.toList
  shape : k.map Sum.isLeft = sh
variable {sh : List Bool} {k : List Itm} {a b : Addr}
theorem IsN.typeIs (x : IsN P w sh s.heap k a) : s.TypeIs (.ref a) "tuple" := let ⟨o, _, _, ho, hc, _⟩ := x.ob; ⟨o, ho, hc⟩
theorem isIt_inj {h : Heap} : ∀ {x y : Itm} {v : Value}, IsItm P w h x v → IsItm P w h y v → x = y
  | .inl i, .inl j, v, ⟨t, e⟩, ⟨u, e'⟩ => by
    rw [e] at e'
    injection e' with e1 _
    rw [e1]
  | .inl i, .inr ns, v, ⟨t, e⟩, ⟨u, e', _⟩ => by
    rw [e] at e'
    exact nomatch e'
  | .inr ns, .inl i, v, ⟨t, e, _⟩, ⟨u, e'⟩ => by
    rw [e] at e'
    exact nomatch e'
  | .inr ns, .inr ms, v, ⟨t, e, h1⟩, ⟨u, e', h2⟩ => by
    rw [e] at e'
    injection e' with e1
    rw [← e1] at h2
    rw [IsTupleKey.inj h1 h2]
theorem its_inj {h : Heap} : ∀ {x y : List Itm} {vs : List Value}, Its P w h x vs → Its P w h y vs → x = y
  | [], y, _, .nil, hy => by cases hy; rfl
  | _ :: _, y, _, .cons a t, hy => by
    cases hy with
    | cons a' t' => rw [isIt_inj a a', its_inj t t']
theorem IsN.inj {h : Heap} {x y : List Itm} (hx : IsN P w sh h x a) (hy : IsN P w sh h y a) : x = y := by
  obtain ⟨o, its, n, e1, _, e2, e3⟩ := hx.ob
  obtain ⟨o', its', n', e1', _, e2', e3'⟩ := hy.ob
  rw [e1] at e1'
  obtain rfl := Option.some.inj e1'
  rw [e2] at e2'
  injection e2' with q _
  rw [← q] at e3'
  exact its_inj e3 e3'
theorem IsN.keep {h h' : Heap} (x : IsN P w sh h k a) (hk : ∀ c o, h.get? c = some o → o.cls = .type "tuple" → h'.get? c = some o) : IsN P w sh h' k a := by
  obtain ⟨o, its, n, e1, e2, e3, e4⟩ := x.ob
  refine ⟨⟨o, its, n, hk _ _ e1 e2, e2, e3, ?_⟩, x.shape⟩
  exact Paired.mapP e4 fun i v hi => by
    cases i with
    | inl i => exact hi
    | inr ns =>
      obtain ⟨b, e, o', it', n', a1, a2, a3⟩ := hi
      exact ⟨b, e, o', it', n', hk _ _ a1 a2, a2, a3⟩
theorem it_hash : ∀ {x : Itm} {v : Value} {Q : Int → Shared → Prop}, A.units < cLine → IsItm P w s.heap x v → (∀ t, s.toks ≤ t → Q (itHash P w x) { s with toks := t }) → wpAny (model P w) A (pyHash v) Q E s
  | .inl i, v, Q, hu, ⟨t, e⟩, h => by
    subst e
    exact (intKind P w).pyHash (intKind_is P w i t) (h _ (Nat.le_add_right _ _))
  | .inr ns, v, Q, hu, ⟨b, e, hb⟩, h => by
    subst e
    exact wpAny_pyHash_tuple hu hb (h _ (Nat.le_add_right _ _))
theorem n_hash {Q : Int → Shared → Prop} (hu : A.units + 2 < cLine) (hk : IsN P w sh s.heap k a) (h : ∀ t, s.toks ≤ t → Q (nHash P w k) { s with toks := t }) : wpAny (model P w) A (pyHash (.ref a)) Q E s := by
  have hT := hk.typeIs
  obtain ⟨o, items, n, ho, _, hd, hi⟩ := hk.ob
  unfold pyHash pyHashByItsType
  refine wpAny_bind (wpAny_cRoomFor_or (.inr (by omega)) ?_)
  refine wpAny_bind (wpAny_specialOf hT F.slot_tuple_hash.lookup ?_)
  show wpAny _ _ (if (some (Value.builtin "tuple.__hash__") == some Value.none) = true then _ else _) Q E s
  rw [if_neg (by rw [beq_builtin_none]; exact Bool.false_ne_true)]
  refine wpAny_bind (wpAny_specialOf hT F.slot_tuple_hash.lookup ?_)
  show wpAny _ _ (callSpecialIfBoundUnlessNone? (.ref a) "__hash__" _ >>= _) Q E s
  refine wpAny_bind (wpAny_callSpecialIfBoundUnlessNone?_slot hT F.slot_tuple_hash (wpAny_call_entry F.slot_tuple_hash hT F.entry_tuple_hash ?_ (F.args_tuple_hash_1 _)))
  show wpAny _ _ (Builtin.Tuple.tupleItemsOf (.ref a) >>= _) _ _ s
  refine wpAny_bind (wpAny_tupleItemsOf ho hd (wpAny_bind ?_))
  rw [← Array.forIn_toList]
  refine wpAny_forIn_list _ (fun rest (acc : Array Int) s' => (∃ t, s.toks ≤ t ∧ s' = { s with toks := t }) ∧ ∃ left, Its P w s.heap left rest ∧ acc.toList ++ left.map (itHash P w) = k.map (itHash P w)) _ ?_ ?_ _ _ ⟨⟨s.toks, Nat.le_refl _, rfl⟩, k, hi, rfl⟩
  · rintro x rest acc s' ⟨⟨t, ht, rfl⟩, left, hl, hb⟩
    cases hl with
    | @cons k1 _ ks' _ h1 hl' =>
      refine wpAny_bind (it_hash (s := { s with toks := t }) (by show A.units + 1 < cLine; omega) h1 fun t' ht' => ?_)
      have fin : (∃ u, s.toks ≤ u ∧ ({ s with toks := t' } : Shared) = { s with toks := u }) ∧ ∃ left, Its P w s.heap left rest ∧ (acc.push (itHash P w k1)).toList ++ left.map (itHash P w) = k.map (itHash P w) :=
        ⟨⟨t', Nat.le_trans ht ht', rfl⟩, ks', hl', by rw [← hb, Array.toList_push, List.map_cons, List.append_assoc]; rfl⟩
      first
        | exact wpAny_pure fin
        | exact wpAny_bind (wpAny_pure (wpAny_pure fin))
  · rintro acc s' ⟨⟨t, ht, rfl⟩, left, hl, hb⟩
    cases hl
    rw [List.map_nil, List.append_nil] at hb
    show wpAny _ _ (retInt (Builtin.Tuple.tupleHashOf acc.toList)) _ _ _
    rw [hb]
    refine wpAny_ret_mkInt ?_
    have hq := fun t => h t
    unfold nHash reduceHash at hq
    show wpAny _ _ (if (decide (-(2 : Int) ^ 63 ≤ Builtin.Tuple.tupleHashOf (k.map (itHash P w))) && decide (Builtin.Tuple.tupleHashOf (k.map (itHash P w)) < 2 ^ 63)) = true then _ else _) Q E _
    by_cases hr : (decide (-(2 : Int) ^ 63 ≤ Builtin.Tuple.tupleHashOf (k.map (itHash P w))) && decide (Builtin.Tuple.tupleHashOf (k.map (itHash P w)) < 2 ^ 63)) = true
    · rw [if_pos hr]
      simp only [hr, if_true] at hq
      exact wpAny_pure (hq _ (by first | exact ht | exact Nat.le_succ_of_le ht | (show s.toks ≤ t + 1; omega)))
    · rw [if_neg hr]
      simp only [hr, if_false] at hq
      exact wpAny_bind (wpAny_rule (wpAny_pure (hq _ (by first | exact ht | exact Nat.le_succ_of_le ht | (show s.toks ≤ t + 1; omega)))))
theorem it_eq : ∀ {x y : Itm} {u v : Value} {Q : Bool → Shared → Prop}, A.units < cLine → IsItm P w s.heap x u → IsItm P w s.heap y v → x.isLeft = y.isLeft → Q (decide (x = y)) s → wpAny (model P w) A (eqBool u v) Q E s
  | .inl i, .inl j, u, v, Q, hu, ⟨t, e⟩, ⟨t', e'⟩, _, h => by
    subst e; subst e'
    refine (intKind P w).eqBool (intKind_is P w i t) (intKind_is P w j t') ?_
    by_cases hij : i = j
    · subst hij
      simpa using h
    · have : ¬ (Sum.inl i : Itm) = Sum.inl j := fun z => hij (Sum.inl.inj z)
      rw [decide_eq_false this] at h
      rw [decide_eq_false hij]
      exact h
  | .inl _, .inr _, _, _, _, _, _, _, z, _ => nomatch z
  | .inr _, .inl _, _, _, _, _, _, _, z, _ => nomatch z
  | .inr ns, .inr ms, u, v, Q, hu, ⟨b, e, hb⟩, ⟨c, e', hc⟩, _, h => by
    subst e; subst e'
    refine wpAny_eqBool_tuple hu hb hc ?_
    by_cases hij : ns = ms
    · subst hij
      simpa using h
    · have : ¬ (Sum.inr ns : Itm) = Sum.inr ms := fun z => hij (Sum.inr.inj z)
      rw [decide_eq_false this] at h
      rw [decide_eq_false hij]
      exact h
theorem n_eq_tree {x y : List Itm} {F' : PySem.Fin → Shared → Prop} (hu : A.units < cLine) (hx : IsN P w sh s.heap x a) (hy : IsN P w sh s.heap y b) (h : F' (.done (.ret (.bool (decide (x = y))))) s) :
    wpAny (model P w) A (Builtin.«tuple.__eq__» ⟨[.ref a, .ref b], []⟩) F' E s := by
  have hTb := hy.typeIs
  have hsh : x.map Sum.isLeft = y.map Sum.isLeft := hx.shape.trans hy.shape.symm
  obtain ⟨oa, xs, na, hoa, _, hda, hia⟩ := hx.ob
  obtain ⟨ob, ys, nb, hob, _, hdb, hib⟩ := hy.ob
  show wpAny _ _ (isInstance (.ref b) (.type "tuple") >>= _) _ _ s
  refine wpAny_bind (wpAny_isInstance hTb isSubtype_tuple_tuple ?_)
  simp only [Bool.not_true, Bool.false_eq_true, if_false]
  refine wpAny_bind (wpAny_tupleItemsOf hoa hda ?_)
  refine wpAny_bind (wpAny_tupleItemsOf hob hdb (wpAny_bind ?_))
  have hl0 : xs.size = ys.size := by
    have l1 : x.length = xs.size := (Paired.length hia).trans Array.length_toList
    have l2 : y.length = ys.size := (Paired.length hib).trans Array.length_toList
    have l3 := congrArg List.length hsh
    rw [List.length_map, List.length_map] at l3
    omega
  refine wpAny_forIn_list _
    (fun rest r s' => r.1 = none ∧ s' = s ∧ ∃ x' y' us vs, rest = List.zip us vs ∧ Its P w s.heap x' us ∧ Its P w s.heap y' vs ∧ x'.map Sum.isLeft = y'.map Sum.isLeft ∧ decide (x' = y') = decide (x = y))
    _ ?_ ?_ _ _ ⟨rfl, rfl, x, y, xs.toList, ys.toList, rfl, hia, hib, hsh, rfl⟩
  · rintro ⟨u, v⟩ rest r s' ⟨hr, rfl, x', y', us, vs, hz, hx', hy', hs', hdec⟩
    cases hx' with
    | nil => simp at hz
    | @cons k1 u' x'' xs'' h1 hx'' =>
      cases hy' with
      | nil => simp at hz
      | @cons k2 v' y'' ys'' h2 hy'' =>
        simp only [List.zip_cons_cons, List.cons.injEq, Prod.mk.injEq] at hz
        obtain ⟨⟨rfl, rfl⟩, rfl⟩ := hz
        rw [List.map_cons, List.map_cons, List.cons.injEq] at hs'
        refine wpAny_bind (it_eq hu h1 h2 hs'.1 ?_)
        by_cases hk : k1 = k2
        · subst hk
          rw [decide_eq_true rfl]
          simp only [Bool.not_true, Bool.false_eq_true, if_false]
          refine wpAny_pure ⟨rfl, rfl, x'', y'', xs'', ys'', rfl, hx'', hy'', hs'.2, ?_⟩
          rw [← hdec]
          by_cases hxy : x'' = y''
          · simp [hxy]
          · simp [hxy]
        · rw [decide_eq_false hk]
          simp only [Bool.not_false, if_true]
          have hf : decide (x = y) = false := by rw [← hdec]; simp [hk]
          rw [hf] at h
          exact wpAny_bind (wpAny_pure (wpAny_pure (wpAny_pure h)))
  · rintro ⟨r1, r2⟩ s' ⟨hr, rfl, x', y', us, vs, hz, hx', hy', hs', hdec⟩
    simp only at hr
    subst hr
    refine wpAny_pure ?_
    have hfin : (xs.size == ys.size) = decide (x = y) := by
      rw [← hdec, hl0, beq_self_eq_true]
      cases hx' with
      | nil =>
        cases hy' with
        | nil => simp
        | cons _ _ => cases hs'
      | cons _ _ =>
        cases hy' with
        | nil => cases hs'
        | cons _ _ => simp at hz
    show F' (.done (.ret (.bool (xs.size == ys.size)))) s'
    rw [hfin]
    exact h
theorem n_eq {x y : List Itm} {Q : Bool → Shared → Prop} (hu : A.units + 4 < cLine) (hx : IsN P w sh s.heap x a) (hy : IsN P w sh s.heap y b) (h : Q (decide (x = y)) s) : wpAny (model P w) A (eqBool (.ref a) (.ref b)) Q E s := by
  unfold eqBool
  refine wpAny_holding ?_
  show wpAny _ _ (if (Value.ref a == Value.ref b) = true then _ else _) Q E s
  by_cases hab : (Value.ref a == Value.ref b) = true
  · rw [if_pos hab]
    have e : a = b := by have := eq_of_beq hab; injection this
    subst e
    obtain rfl := hx.inj hy
    exact wpAny_bind (wpAny_rule (wpAny_pure (by simpa using h)))
  · rw [if_neg hab]
    refine wpAny_bind (wpAny_richCompare_same_room (op := .Eq) hx.typeIs hy.typeIs F.slot_tuple_eq
      (wpAny_call_entry F.slot_tuple_eq hx.typeIs F.entry_tuple_eq (n_eq_tree ?_ hx hy ⟨_, rfl, (fun e => nomatch e), wpAny_truthy_bool h⟩) (F.args_tuple_eq_2 _ _)) (by omega))
    show A.units + 1 < cLine
    omega
theorem quiet_tup (m : Nat) {ns : List Int} {c : Addr} {Q : Bool → Shared → Prop} (hk : IsT P w s.heap ns c) (h : Q true s) : wpAny (model P w) A (eqIsQuiet (m + 1) (.ref c)) Q E s := by
  have hT := hk.typeIs
  obtain ⟨o, items, n, ho, _, hd, hi⟩ := hk
  unfold eqIsQuiet
  refine wpAny_bind (wpAny_specialOf hT F.slot_tuple_eq.lookup ?_)
  show wpAny _ _ (isInstance (.ref c) (.type "tuple") >>= _) _ _ s
  refine wpAny_bind (wpAny_isInstance hT isSubtype_tuple_tuple ?_)
  simp only [Bool.not_true, Bool.false_eq_true, if_false]
  refine wpAny_bind (wpAny_seqItems ho hd (wpAny_bind ?_))
  show wpAny _ _ (forIn items _ _) _ _ s
  rw [← Array.forIn_toList]
  refine wpAny_forIn_list _ (fun rest r s' => r.1 = none ∧ s' = s ∧ ∀ v ∈ rest, carriedByValue v = true) _ ?_ ?_ _ _ ⟨rfl, rfl, hi.byValue⟩
  · rintro v rest r s' ⟨hr, rfl, hall⟩
    rw [eqIsQuiet_byValue _ (hall v List.mem_cons_self)]
    refine wpAny_bind (wpAny_pure ?_)
    simp only [Bool.not_true, Bool.false_eq_true, if_false]
    exact wpAny_pure ⟨rfl, rfl, fun u hu' => hall u (List.mem_cons_of_mem _ hu')⟩
  · rintro ⟨r1, r2⟩ s' ⟨hr, rfl, _⟩
    simp only at hr
    subst hr
    exact wpAny_pure h
theorem it_quiet (m : Nat) : ∀ {x : Itm} {v : Value} {Q : Bool → Shared → Prop}, IsItm P w s.heap x v → Q true s → wpAny (model P w) A (eqIsQuiet (m + 1) v) Q E s
  | .inl i, v, Q, ⟨t, e⟩, h => by
    subst e
    rw [eqIsQuiet_byValue _ rfl]
    exact wpAny_pure h
  | .inr ns, v, Q, ⟨b, e, hb⟩, h => by
    subst e
    exact quiet_tup m hb h
theorem its_mem {h : Heap} : ∀ {k : List Itm} {vs : List Value}, Its P w h k vs → ∀ v ∈ vs, ∃ x, IsItm P w h x v
  | _, _, .nil, v, hv => by cases hv
  | _, _, .cons a t, v, hv => by
    rcases List.mem_cons.mp hv with e | hv
    · exact ⟨_, by rw [e]; exact a⟩
    · exact its_mem t v hv
theorem n_quiet (m : Nat) {Q : Bool → Shared → Prop} (hk : IsN P w sh s.heap k a) (h : Q true s) : wpAny (model P w) A (eqIsQuiet (m + 2) (.ref a)) Q E s := by
  have hT := hk.typeIs
  obtain ⟨o, items, n, ho, _, hd, hi⟩ := hk.ob
  unfold eqIsQuiet
  refine wpAny_bind (wpAny_specialOf hT F.slot_tuple_eq.lookup ?_)
  show wpAny _ _ (isInstance (.ref a) (.type "tuple") >>= _) _ _ s
  refine wpAny_bind (wpAny_isInstance hT isSubtype_tuple_tuple ?_)
  simp only [Bool.not_true, Bool.false_eq_true, if_false]
  refine wpAny_bind (wpAny_seqItems ho hd (wpAny_bind ?_))
  show wpAny _ _ (forIn items _ _) _ _ s
  rw [← Array.forIn_toList]
  refine wpAny_forIn_list _ (fun rest r s' => r.1 = none ∧ s' = s ∧ ∀ v ∈ rest, ∃ x, IsItm P w s.heap x v) _ ?_ ?_ _ _ ⟨rfl, rfl, its_mem hi⟩
  · rintro v rest r s' ⟨hr, rfl, hall⟩
    obtain ⟨x, hx⟩ := hall v List.mem_cons_self
    refine wpAny_bind (it_quiet m hx ?_)
    simp only [Bool.not_true, Bool.false_eq_true, if_false]
    exact wpAny_pure ⟨rfl, rfl, fun u hu' => hall u (List.mem_cons_of_mem _ hu')⟩
  · rintro ⟨r1, r2⟩ s' ⟨hr, rfl, _⟩
    simp only at hr
    subst hr
    exact wpAny_pure h
theorem hashBy_t (m : Nat) {ns : List Int} {c : Addr} {Q : Bool → Shared → Prop} (hk : IsT P w s.heap ns c) (h : Q true s) : wpAny (model P w) A (hashByValue (m + 1) (.ref c)) Q E s := by
  have hT := hk.typeIs
  obtain ⟨o, items, n, ho, _, hd, hi⟩ := hk
  unfold hashByValue
  refine wpAny_bind (wpAny_specialOf hT F.slot_tuple_hash.lookup ?_)
  show wpAny _ _ (seqItems? (.ref c) >>= _) _ _ s
  refine wpAny_bind (wpAny_seqItems ho hd (wpAny_bind ?_))
  show wpAny _ _ (forIn items _ _) _ _ s
  rw [← Array.forIn_toList]
  refine wpAny_forIn_list _ (fun rest r s' => r.1 = none ∧ s' = s ∧ ∀ v ∈ rest, ∃ i t, v = Value.int i t) _ ?_ ?_ _ _ ⟨rfl, rfl, items_int hi⟩
  · rintro v rest r s' ⟨hr, rfl, hall⟩
    obtain ⟨i, t, rfl⟩ := hall v List.mem_cons_self
    rw [hashBy_int]
    refine wpAny_bind (wpAny_pure ?_)
    simp only [Bool.not_true, Bool.false_eq_true, if_false]
    exact wpAny_pure ⟨rfl, rfl, fun u hu' => hall u (List.mem_cons_of_mem _ hu')⟩
  · rintro ⟨r1, r2⟩ s' ⟨hr, rfl, _⟩
    simp only at hr
    subst hr
    exact wpAny_pure h
theorem it_hashBy (m : Nat) : ∀ {x : Itm} {v : Value} {Q : Bool → Shared → Prop}, IsItm P w s.heap x v → Q true s → wpAny (model P w) A (hashByValue (m + 1) v) Q E s
  | .inl i, v, Q, ⟨t, e⟩, h => by
    subst e
    rw [hashBy_int]
    exact wpAny_pure h
  | .inr ns, v, Q, ⟨b, e, hb⟩, h => by
    subst e
    exact hashBy_t m hb h
theorem n_hashBy (m : Nat) {Q : Bool → Shared → Prop} (hk : IsN P w sh s.heap k a) (h : Q true s) : wpAny (model P w) A (hashByValue (m + 2) (.ref a)) Q E s := by
  have hT := hk.typeIs
  obtain ⟨o, items, n, ho, _, hd, hi⟩ := hk.ob
  unfold hashByValue
  refine wpAny_bind (wpAny_specialOf hT F.slot_tuple_hash.lookup ?_)
  show wpAny _ _ (seqItems? (.ref a) >>= _) _ _ s
  refine wpAny_bind (wpAny_seqItems ho hd (wpAny_bind ?_))
  show wpAny _ _ (forIn items _ _) _ _ s
  rw [← Array.forIn_toList]
  refine wpAny_forIn_list _ (fun rest r s' => r.1 = none ∧ s' = s ∧ ∀ v ∈ rest, ∃ x, IsItm P w s.heap x v) _ ?_ ?_ _ _ ⟨rfl, rfl, its_mem hi⟩
  · rintro v rest r s' ⟨hr, rfl, hall⟩
    obtain ⟨x, hx⟩ := hall v List.mem_cons_self
    refine wpAny_bind (it_hashBy m hx ?_)
    simp only [Bool.not_true, Bool.false_eq_true, if_false]
    exact wpAny_pure ⟨rfl, rfl, fun u hu' => hall u (List.mem_cons_of_mem _ hu')⟩
  · rintro ⟨r1, r2⟩ s' ⟨hr, rfl, _⟩
    simp only at hr
    subst hr
    exact wpAny_pure h
theorem cls_t (m : Nat) {ns : List Int} {c : Addr} {Q : Bool → Shared → Prop} (hk : IsT P w s.heap ns c) (h : Q false s) : wpAny (model P w) A (ofAClassStatement (m + 1) (.ref c)) Q E s := by
  have hT := hk.typeIs
  obtain ⟨o, items, n, ho, _, hd, hi⟩ := hk
  unfold ofAClassStatement
  refine wpAny_bind (wpAny_typeOf hT ?_)
  dsimp only
  have e : (("tuple" : String) == "tuple") = true := by decide
  simp only [e, if_true, Bool.not_true, Bool.false_eq_true, if_false]
  try refine wpAny_bind (wpAny_pure ?_)
  try simp only [Bool.not_true, Bool.false_eq_true, if_false]
  show wpAny _ _ (seqItems? (.ref c) >>= _) _ _ s
  refine wpAny_bind (wpAny_seqItems ho hd ?_)
  dsimp only
  refine wpAny_bind ?_
  show wpAny _ _ (forIn items _ _) _ _ s
  rw [← Array.forIn_toList]
  refine wpAny_forIn_list _ (fun rest r s' => r.1 = none ∧ s' = s ∧ ∀ v ∈ rest, ∃ i t, v = Value.int i t) _ ?_ ?_ _ _ ⟨rfl, rfl, items_int hi⟩
  · rintro v rest r s' ⟨hr, rfl, hall⟩
    obtain ⟨i, t, rfl⟩ := hall v List.mem_cons_self
    rw [ofAClass_int]
    refine wpAny_bind (wpAny_pure ?_)
    simp only [Bool.false_eq_true, if_false]
    exact wpAny_pure ⟨rfl, rfl, fun u hu' => hall u (List.mem_cons_of_mem _ hu')⟩
  · rintro ⟨r1, r2⟩ s' ⟨hr, rfl, _⟩
    simp only at hr
    subst hr
    exact wpAny_pure h
theorem it_cls (m : Nat) : ∀ {x : Itm} {v : Value} {Q : Bool → Shared → Prop}, IsItm P w s.heap x v → Q false s → wpAny (model P w) A (ofAClassStatement (m + 1) v) Q E s
  | .inl i, v, Q, ⟨t, e⟩, h => by
    subst e
    rw [ofAClass_int]
    exact wpAny_pure h
  | .inr ns, v, Q, ⟨b, e, hb⟩, h => by
    subst e
    exact cls_t m hb h
theorem n_cls (m : Nat) {Q : Bool → Shared → Prop} (hk : IsN P w sh s.heap k a) (h : Q false s) : wpAny (model P w) A (ofAClassStatement (m + 2) (.ref a)) Q E s := by
  have hT := hk.typeIs
  obtain ⟨o, items, n, ho, _, hd, hi⟩ := hk.ob
  unfold ofAClassStatement
  refine wpAny_bind (wpAny_typeOf hT ?_)
  dsimp only
  have e : (("tuple" : String) == "tuple") = true := by decide
  simp only [e, if_true, Bool.not_true, Bool.false_eq_true, if_false]
  try refine wpAny_bind (wpAny_pure ?_)
  try simp only [Bool.not_true, Bool.false_eq_true, if_false]
  show wpAny _ _ (seqItems? (.ref a) >>= _) _ _ s
  refine wpAny_bind (wpAny_seqItems ho hd ?_)
  dsimp only
  refine wpAny_bind ?_
  show wpAny _ _ (forIn items _ _) _ _ s
  rw [← Array.forIn_toList]
  refine wpAny_forIn_list _ (fun rest r s' => r.1 = none ∧ s' = s ∧ ∀ v ∈ rest, ∃ x, IsItm P w s.heap x v) _ ?_ ?_ _ _ ⟨rfl, rfl, its_mem hi⟩
  · rintro v rest r s' ⟨hr, rfl, hall⟩
    obtain ⟨x, hx⟩ := hall v List.mem_cons_self
    refine wpAny_bind (it_cls m hx ?_)
    simp only [Bool.false_eq_true, if_false]
    exact wpAny_pure ⟨rfl, rfl, fun u hu' => hall u (List.mem_cons_of_mem _ hu')⟩
  · rintro ⟨r1, r2⟩ s' ⟨hr, rfl, _⟩
    simp only at hr
    subst hr
    exact wpAny_pure h
theorem n_seen {ys : List Value} {Q : Bool → Shared → Prop} (hk : IsN P w sh s.heap k a) (hy : ∀ y ∈ ys, ∃ k' c, y = Value.ref c ∧ IsN P w sh s.heap k' c) (h : Q false s) : wpAny (model P w) A (searchCouldBeSeen (.ref a) ys) Q E s := by
  unfold searchCouldBeSeen
  refine wpAny_bind ?_
  refine wpAny_forIn_list _ (fun rest r s' => r.1 = none ∧ s' = s ∧ ∀ y ∈ rest, ∃ k' c, y = Value.ref c ∧ IsN P w sh s.heap k' c) _ ?_ ?_ _ _ ⟨rfl, rfl, hy⟩
  · rintro v rest r s' ⟨hr, rfl, hall⟩
    obtain ⟨k', c, rfl, hc⟩ := hall v List.mem_cons_self
    have more : ∀ y ∈ rest, ∃ k' c, y = Value.ref c ∧ IsN P w sh s'.heap k' c := fun u hu' => hall u (List.mem_cons_of_mem _ hu')
    dsimp only
    by_cases hv : (a == c || (carriedByValue (.ref a) && carriedByValue (.ref c))) = true
    · exact wp_if_pos hv (wpAny_pure ⟨rfl, rfl, more⟩)
    · refine wp_if_neg hv ?_
      refine wpAny_bind (n_quiet 6 hk ?_)
      simp only [Bool.not_true, Bool.false_eq_true, if_false]
      refine wpAny_bind (n_quiet 6 hc ?_)
      simp only [Bool.not_true, Bool.false_eq_true, if_false]
      refine wpAny_bind (n_cls 6 hk ?_)
      simp only [Bool.false_eq_true, if_false]
      refine wpAny_bind (n_cls 6 hc ?_)
      simp only [Bool.false_eq_true, if_false]
      exact wpAny_pure ⟨rfl, rfl, more⟩
  · rintro ⟨r1, r2⟩ s' ⟨hr, rfl, _⟩
    simp only at hr
    subst hr
    exact wpAny_pure h
end
end Lh
set_option Elab.async false
set_option linter.all false
set_option maxRecDepth 100000
set_option maxHeartbeats 4000000
namespace Lh
open PySem PySem.Spec PyProof.Rows L2
/-- the probe that stands behind c steps -/
def prS (t : SetTable) (g : Int) (c : Nat) : SetTable.Probe := nth t.mask (runAt t.mask (SetTable.bits g % (t.mask + 1)) (SetTable.bits g)) c
theorem prS_add (t : SetTable) (g : Int) (c q : Nat) : nth t.mask (prS t g c) q = prS t g (c + q) := (nth_add t.mask c _ q).symm
theorem nth_dummy (m : Nat) : ∀ (n : Nat) (p : SetTable.Probe), p.dummy = none → (nth m p n).dummy = none
  | 0, _, h => h
  | n + 1, p, h => nth_dummy m n (adv m p) (by unfold adv; split <;> exact h)
section
variable {P : Program} {w : World} {A : Around} {E : Value → Shared → Prop} {s : Shared} {sh : List Bool}
abbrev NL := List (Addr × List Itm)
def nRows (P : Program) (w : World) (L : NL) : List (Int × Value) := L.map fun p => (nHash P w p.2, Value.ref p.1)
abbrev nHs (P : Program) (w : World) (L : NL) : List Int := L.map fun p => nHash P w p.2
theorem nRows_len (L : NL) : (nRows P w L).length = L.length := List.length_map _
theorem nRows_get {L : NL} {i : Nat} {p : Addr × List Itm} (h : L[i]? = some p) : (nRows P w L)[i]? = some (nHash P w p.2, Value.ref p.1) := by
  unfold nRows
  rw [List.getElem?_map, h]
  rfl
/-- the set at a has the tuples L -/
structure NS (P : Program) (w : World) (sh : List Bool) (h : Heap) (a : Addr) (L : NL) (es : Array (Int × Value)) (ep : Nat) (t : SetTable) : Prop where
  obj : ∃ o, h.get? a = some o ∧ o.ExactSet ∧ o.data = .set es ep t
  rows : es.toList = nRows P w L
  tab : TabOk t (nHs P w L)
  uniq : (L.map (·.2)).Nodup
  each : ∀ p ∈ L, IsN P w sh h p.2 p.1
  plain : t.plain = true
  led : w.params.followText "set-order" = true ∨ t.led = true
  room : L.length * 5 < t.mask * 3
  few : L.length < 64
variable {a x : Addr} {L : NL} {es : Array (Int × Value)} {ep : Nat} {t : SetTable} {k : List Itm}
theorem rows_size {L : NL} {es : Array (Int × Value)} (h : es.toList = nRows P w L) : es.size = L.length := by
  rw [← Array.length_toList, h, nRows_len]
theorem NS.size (R : NS P w sh s.heap a L es ep t) : es.size = L.length := rows_size R.rows
theorem NS.placed (R : NS P w sh s.heap a L es ep t) : t.place.size = L.length := R.tab.sz.trans (List.length_map _)
theorem NS.fits (R : NS P w sh s.heap a L es ep t) : t.fits es.size = true := by
  have h1 := R.placed
  have h2 := R.size
  have h3 := R.room
  unfold SetTable.fits SetTable.fill
  rw [R.tab.dm, Bool.and_eq_true, beq_iff_eq, decide_eq_true_eq]
  show t.place.size = es.size ∧ t.place.size + 0 ≤ t.mask
  omega
theorem NS.entry (R : NS P w sh s.heap a L es ep t) {i : Nat} {p : Addr × List Itm} (h : L[i]? = some p) : es[i]? = some (nHash P w p.2, Value.ref p.1) := by
  rw [← Array.getElem?_toList, R.rows]
  exact nRows_get h
theorem NS.gw (R : NS P w sh s.heap a L es ep t) : ¬ t.gaveWay = true := by
  unfold SetTable.gaveWay
  rw [mask_odd R.tab.mok]
  decide
/-- where a key that stands in the set is met -/
def Ahead (t : SetTable) (g : Int) (L : NL) (k : List Itm) (c K : Nat) : Prop := ∀ (i : Nat) p, L[i]? = some p → p.2 = k → ∃ c', c ≤ c' ∧ c' < K ∧ t.place.toList[i]? = some (way t.mask g c')
/-- the search, c steps being gone -/
theorem n_search_from (R : NS P w sh s.heap a L es ep t) (hx : IsN P w sh s.heap k x) (hu : A.units + 4 < cLine) {g : Int} (hg : g = nHash P w k) {K : Nat} (hKf : K < 10 * SetTable.turns t.mask)
    (hK : way t.mask g K ∉ t.place.toList) (hKb : ∀ c, c < K → way t.mask g c ∈ t.place.toList) {Q : SetFound → Shared → Prop}
    (hin : k ∈ L.map (·.2) → Q (.there none) s) (hout : k ∉ L.map (·.2) → Q (.free (way t.mask g K) false) s) :
    ∀ (f c : Nat) (stand : Option SetTable.Probe), stand.getD (t.probeStart g) = prS t g c → c ≤ K → K - c < f → Ahead t g L k c K → wpAny (model P w) A (setSearchFrom a (.ref x) g true f stand) Q E s
  | 0, c, stand, _, _, hf, _ => absurd hf (Nat.not_lt_zero _)
  | f + 1, c, stand, hst, hc, hf, hre => by
    obtain ⟨o, ho, hex, hd⟩ := R.obj
    rw [setSearchFrom_succ]
    refine wpAny_bind (wpAny_setState_of ho hd R.fits ?_)
    dsimp only
    refine wp_if_neg R.gw ?_
    try refine wpAny_bind (wpAny_pure ?_)
    have sh1 : ∀ q, (nth t.mask (prS t g c) q).j = way t.mask g (c + q) := fun q => congrArg SetTable.Probe.j (prS_add t g c q)
    have spec := go_spec t R.tab.ris R.tab.dm (fun i => (es[i]?.map (·.1)).getD 0) g (10 * SetTable.turns t.mask) (K - c) (prS t g c) (nth_dummy _ _ _ rfl) (by omega)
      (fun q hq => by rw [sh1]; exact hKb (c + q) (by omega)) (by rw [sh1, show c + (K - c) = K by omega]; exact hK)
    have hashAt : ∀ (i : Nat) p, L[i]? = some p → (fun i => (es[i]?.map (·.1)).getD 0) i = nHash P w p.2 := fun i p hp => by
      show (es[i]?.map (·.1)).getD 0 = _
      rw [R.entry hp]
      rfl
    rcases spec with ⟨q, i, hq, hi, hh, hno, hpr⟩ | ⟨hno, hpr⟩
    · have hpr' : t.probe (fun i => (es[i]?.map (·.1)).getD 0) g (stand.getD (t.probeStart g)) = some (.candidate (way t.mask g (c + q)) i (prS t g (c + (q + 1)))) := by
        rw [hst, ← sh1, ← prS_add]
        exact hpr
      rw [hpr']
      dsimp only
      rw [sh1] at hi
      have hil : i < L.length := by
        have h1 : i < t.place.toList.length := (List.getElem?_eq_some_iff.mp hi).1
        rw [Array.length_toList, R.placed] at h1
        exact h1
      obtain ⟨p, hp⟩ : ∃ p, L[i]? = some p := ⟨_, List.getElem?_eq_getElem hil⟩
      have hmem : p ∈ L := List.mem_of_getElem? hp
      have after : wpAny (model P w) A (searchRest a (.ref x) g true f es t (way t.mask g (c + q)) i (prS t g (c + (q + 1)))) Q E s := by
        unfold searchRest
        rw [R.entry hp]
        dsimp only
        refine wpAny_bind (wpAny_holding (n_eq hu (R.each p hmem) hx ?_))
        refine wpAny_bind (wpAny_setState_of ho hd R.fits ?_)
        dsimp only
        by_cases hkk : p.2 = k
        · exact wp_if_pos (by simp [hkk]) (wpAny_pure (hin (List.mem_map.mpr ⟨p, hmem, hkk⟩)))
        · refine wp_if_neg (by simp [hkk]) ?_
          try refine wpAny_bind (wpAny_pure ?_)
          rw [sameMem]
          dsimp only
          have hsl : t.slot (way t.mask g (c + q)) = .live i := slot_live R.tab.ris hi
          simp only [if_true, hsl, R.entry hp]
          refine wpAny_bind (wpAny_isSame_ref_self (wpAny_bind (wpAny_pure ?_)))
          simp only [if_true]
          refine wp_if_neg (by simp [hkk]) ?_
          refine n_search_from R hx hu hg hKf hK hKb hin hout f (c + (q + 1)) _ rfl (by omega) (by omega) fun i0 p0 h0 hk0 => ?_
          obtain ⟨c', a1, a2, a3⟩ := hre i0 p0 h0 hk0
          refine ⟨c', ?_, a2, a3⟩
          have hh0 := (hashAt i0 p0 h0).trans ((congrArg (nHash P w) hk0).trans hg.symm)
          rcases Nat.lt_trichotomy c' (c + q) with z | z | z
          · exact absurd hh0 (hno (c' - c) i0 (by omega) (by rw [sh1, show c + (c' - c) = c' by omega]; exact a3))
          · exfalso
            rw [z] at a3
            have s0 := slot_live R.tab.ris a3
            rw [hsl] at s0
            injection s0 with s0
            rw [← s0, hp] at h0
            exact hkk ((congrArg Prod.snd (Option.some.inj h0)).trans hk0)
          · omega
      by_cases hl : t.led = true
      · refine wp_if_neg (by simp [hl]) ?_
        try refine wpAny_bind (wpAny_pure ?_)
        exact after
      · refine wp_if_pos (by simp [hl]) ?_
        refine wpAny_bind (n_seen hx (fun y hy => ?_) ?_)
        · obtain ⟨e, he, ee⟩ := List.mem_map.mp hy
          have he2 : e ∈ es.toList := by
            have q : e ∈ es ∧ e.1 = g := by simpa using he
            simpa using q.1
          rw [R.rows] at he2
          obtain ⟨p2, hp2, e2⟩ := List.mem_map.mp he2
          exact ⟨p2.2, p2.1, by rw [← ee, ← e2], R.each p2 hp2⟩
        · refine wp_if_neg (by decide) ?_
          try refine wpAny_bind (wpAny_pure ?_)
          exact after
    · have hpr' : t.probe (fun i => (es[i]?.map (·.1)).getD 0) g (stand.getD (t.probeStart g)) = some (.empty (way t.mask g K) none) := by
        rw [hst, show way t.mask g K = (nth t.mask (prS t g c) (K - c)).j by rw [sh1, show c + (K - c) = K by omega]]
        exact hpr
      rw [hpr']
      dsimp only
      refine wpAny_pure (hout fun hm => ?_)
      obtain ⟨p0, h0, hk0⟩ := List.mem_map.mp hm
      obtain ⟨i0, h00⟩ := List.mem_iff_getElem?.mp h0
      obtain ⟨c', a1, a2, a3⟩ := hre i0 p0 h00 hk0
      exact hno (c' - c) i0 (by omega) (by rw [sh1, show c + (c' - c) = c' by omega]; exact a3) ((hashAt i0 p0 h00).trans ((congrArg (nHash P w) hk0).trans hg.symm))
theorem n_search (R : NS P w sh s.heap a L es ep t) (hx : IsN P w sh s.heap k x) (hu : A.units + 4 < cLine) {g : Int} (hg : g = nHash P w k) {Q : SetFound → Shared → Prop} (hin : k ∈ L.map (·.2) → Q (.there none) s)
    (hout : ∀ K, k ∉ L.map (·.2) → way t.mask g K ∉ t.place.toList → (∀ c, c < K → way t.mask g c ∈ t.place.toList) → Q (.free (way t.mask g K) false) s) :
    wpAny (model P w) A (setSearch a (.ref x) g true) Q E s := by
  have hroom := R.room
  obtain ⟨K, hKf, hK, hKb⟩ := R.tab.first (by rw [List.length_map]; omega) g
  have hbig : K < 100000 := by
    have : 10 * SetTable.turns t.mask ≤ 1420 := by
      unfold SetTable.turns
      rcases R.tab.mok with e | e | e <;> omega
    omega
  unfold setSearch
  refine n_search_from R hx hu hg hKf hK hKb hin (fun hn => hout K hn hK hKb) 100000 0 none rfl (Nat.zero_le _) (by omega) fun i p hp hk => ?_
  have hi : (nHs P w L)[i]? = some g := by
    rw [List.getElem?_map, hp, hg, ← hk]
    rfl
  have hil : i < t.place.toList.length := by
    rw [Array.length_toList, R.placed]
    exact (List.getElem?_eq_some_iff.mp hp).1
  have hj := List.getElem?_eq_getElem hil
  obtain ⟨c, hc, e⟩ := R.tab.before hK hi hj
  exact ⟨c, Nat.zero_le _, hc, by rw [hj, e]⟩
theorem IsN.other {h h' : Heap} {o : Obj} (hb : IsN P w sh h k x) (ho : h.get? a = some o) (hd : o.data = .set es ep t) (hcl : o.ExactSet) (hs : Heap.SameBut a h h') : IsN P w sh h' k x :=
  hb.keep fun c o' e1 e2 => (hs.2 c fun z => by
    rw [z, ho] at e1
    rw [← Option.some.inj e1, hcl.1] at e2
    exact absurd e2 (by decide)).trans e1
theorem rows_ins (L : NL) (p : Nat) (x : Addr) (k : List Itm) : nRows P w (L.take p ++ (x, k) :: L.drop p) = (nRows P w L).take p ++ (nHash P w k, Value.ref x) :: (nRows P w L).drop p := by
  unfold nRows
  rw [List.map_append, List.map_cons, List.map_take, List.map_drop]
theorem pick_perm (L : NL) {l : List Nat} (hp : l.Perm (List.range L.length)) : (l.filterMap fun i => L[i]?).Perm L := by
  have up : ∀ n, n ≤ L.length → (List.range n).filterMap (fun i => L[i]?) = L.take n := fun n => by
    induction n with
    | zero => intro _; rfl
    | succ n ih =>
      intro hn
      have q : L[n]? = some L[n] := List.getElem?_eq_getElem hn
      rw [List.range_succ, List.filterMap_append, ih (Nat.le_of_succ_le hn), List.filterMap_cons_some q, List.take_add_one, q]
      rfl
  have h2 := (up L.length (Nat.le_refl _)).trans (List.take_of_length_le (Nat.le_refl _))
  have h1 := hp.filterMap fun i => L[i]?
  rwa [h2] at h1
theorem pick_rows (L : NL) {es : Array (Int × Value)} (hr : es.toList = nRows P w L) : ∀ l : List Nat, (∀ i ∈ l, i < L.length) →
    l.filterMap (fun i => es[i]?) = nRows P w (l.filterMap fun i => L[i]?) ∧ nHs P w (l.filterMap fun i => L[i]?) = l.map fun i => (es.map (·.1)).getD i 0
  | [], _ => ⟨rfl, rfl⟩
  | i :: l, hl => by
    have hi := hl i List.mem_cons_self
    have hL : L[i]? = some L[i] := List.getElem?_eq_getElem hi
    have he : es[i]? = some (nHash P w L[i].2, Value.ref L[i].1) := by
      rw [← Array.getElem?_toList, hr]
      exact nRows_get hL
    obtain ⟨e1, e2⟩ := pick_rows L hr l fun j hj => hl j (List.mem_cons_of_mem _ hj)
    rw [List.filterMap_cons_some he, List.filterMap_cons_some hL, e1]
    refine ⟨rfl, ?_⟩
    show nHash P w L[i].2 :: nHs P w (l.filterMap fun i => L[i]?) = _
    rw [e2, List.map_cons]
    congr 1
    have e5 : (es.map (·.1))[i]? = some (nHash P w L[i].2) := by
      rw [Array.getElem?_map, he]
      rfl
    simp [Array.getD_eq_getD_getElem?, e5]
theorem n_relay {o : Obj} (ho : s.heap.get? a = some o) (hex : o.ExactSet) (hd : o.data = .set es ep t) (hrows : es.toList = nRows P w L) (hsz : t.place.size = es.size) (hdm : t.dummies = #[]) (hfl : es.size ≤ t.mask)
    (nd : (L.map (·.2)).Nodup) (each : ∀ p ∈ L, IsN P w sh s.heap p.2 p.1) (pl : t.plain = true) (ld : w.params.followText "set-order" = true ∨ t.led = true) (few : L.length < 64) {wanted M : Nat}
    (hw : SetTable.sizeAbove wanted - 1 = M) (hM : MaskOk M) (hw2 : SetTable.sizeAbove wanted ≤ 128) (hn : L.length * 5 < M * 3) {Q : Unit → Shared → Prop}
    (hQ : ∀ h' L' es' ep' t', Heap.SameBut a s.heap h' → NS P w sh h' a L' es' ep' t' → L'.Perm L → Q () { s with heap := h' }) : wpAny (model P w) A (setRelay a wanted) Q E s := by
  have hsl := rows_size hrows
  have hfits : t.fits es.size = true := by
    unfold SetTable.fits SetTable.fill
    rw [hdm, Bool.and_eq_true, beq_iff_eq, decide_eq_true_eq]
    show t.place.size = es.size ∧ t.place.size + 0 ≤ t.mask
    omega
  obtain ⟨t', order, e, hp, T, em, el, ep', ed⟩ := relaid_ok t (hs := es.map (·.1)) (wanted := wanted) hw hM (by rw [Array.size_map, hsl]; omega)
  rw [Array.size_map, hsl] at hp
  have hin : ∀ i ∈ order.toList, i < L.length := fun i hi => List.mem_range.mp (hp.mem_iff.mp hi)
  obtain ⟨r1, r3⟩ := pick_rows L hrows order.toList hin
  have r2 := pick_perm L hp
  rw [← r3] at T
  generalize order.toList.filterMap (fun i => L[i]?) = L2 at r1 r2 T
  have r1' : (order.filterMap (es[·]?)).toList = nRows P w L2 := by
    first
      | (rw [Array.toList_filterMap]; exact r1)
      | simpa using r1
  have hs2 : (order.filterMap (es[·]?)).size = es.size := by rw [rows_size r1', r2.length_eq, hsl]
  rw [setRelay_eq]
  refine wpAny_bind (wpAny_setState_of ho hd hfits ?_)
  dsimp only
  refine wp_if_neg (by rw [sizeLine_eq]; omega) ?_
  try refine wpAny_bind (wpAny_pure ?_)
  rw [e]
  dsimp only
  refine wpAny_bind ?_
  refine wp_if_neg (by rw [hs2]; simp) ?_
  try refine wpAny_bind (wpAny_pure ?_)
  refine wpAny_pure ?_
  dsimp only
  refine wpAny_storeSet_of ho hd ?_ (by rw [hs2, hsl, sizeLine_eq]; omega)
  have sb : Heap.SameBut a s.heap (s.heap.update a (Obj.putSet (order.filterMap (es[·]?)) t')) := Heap.SameBut.update ..
  refine hQ _ L2 (order.filterMap (es[·]?)) (ep + 1) t' sb ⟨⟨_, store_at ho hd, ⟨hex.1, hex.2.1, hex.2.2⟩, rfl⟩, r1', T, ?_, fun p hpm => (each p (r2.mem_iff.mp hpm)).other ho hd hex sb, by rw [ep']; exact pl, by rw [el]; exact ld, ?_, by rw [r2.length_eq]; exact few⟩ r2
  · exact (r2.map (·.2)).nodup_iff.mpr nd
  · rw [r2.length_eq, em]
    exact hn
theorem n_add (R : NS P w sh s.heap a L es ep t) (hx : IsN P w sh s.heap k x) (hu : A.units + 4 < cLine) (hfew : L.length + 1 < 64) {g : Int} (hg : g = nHash P w k) {Q : Bool → Shared → Prop}
    (hQ : ∀ b h' L' es' ep' t', Heap.SameBut a s.heap h' → NS P w sh h' a L' es' ep' t' → (k ∈ L.map (·.2) → L' = L) → (k ∉ L.map (·.2) → L'.Perm ((x, k) :: L)) → Q b { s with heap := h' }) :
    wpAny (model P w) A (setAddHashed a (.ref x) g) Q E s := by
  obtain ⟨o, ho, hex, hd⟩ := R.obj
  have hsl := R.size
  have hroom := R.room
  unfold setAddHashed
  refine wpAny_holding ?_
  rw [show (100000 : Nat) = 99999 + 1 from rfl, setAddHashedIn_succ]
  refine wpAny_bind (wpAny_setState_of ho hd R.fits ?_)
  dsimp only
  refine wp_if_neg (by simp [byScan, Value.scannable]) ?_
  try refine wpAny_bind (wpAny_pure ?_)
  refine wpAny_bind (n_search R hx hu hg (fun hm => ?_) fun K hm hK hb => ?_)
  · dsimp only
    exact wpAny_pure (hQ false s.heap L es ep t (Heap.SameBut.refl a s.heap) R (fun _ => rfl) fun z => absurd hm z)
  · dsimp only
    refine wpAny_bind (wpAny_setState_of ho hd R.fits ?_)
    dsimp only
    obtain ⟨q1, q2, q3, q4, q5, q6, q7, q8, q9⟩ := R.tab.put hK hb
    have hp1 : (t.put (way t.mask g K)).1.plain = true := by rw [q6]; exact R.plain
    generalize hpt : t.put (way t.mask g K) = pt at q1 q3 q4 q5 q6 q7 q8 q9 hp1 ⊢
    obtain ⟨t1, p⟩ := pt
    dsimp only at q1 q3 q4 q5 q6 q7 q8 q9 hp1 ⊢
    subst q1
    first
      | (refine wpAny_bind ?_; refine wp_if_pos hp1 ?_; refine n_hashBy 6 hx ?_)
      | refine wp_if_pos hp1 (wpAny_bind (n_hashBy 6 hx ?_))
    simp only [if_true]
    have hin : (SetTable.insertAt es (SetTable.below t.place (way t.mask g K)) (g, Value.ref x)).toList = nRows P w (L.take (SetTable.below t.place (way t.mask g K)) ++ (x, k) :: L.drop (SetTable.below t.place (way t.mask g K))) := by
      rw [SetTable.toList_insertAt, rows_ins, R.rows, hg]
    generalize hpp : SetTable.below t.place (way t.mask g K) = p at q2 q3 hin ⊢
    have pm := put_perm L p (x, k)
    have hlen : (L.take p ++ (x, k) :: L.drop p).length = L.length + 1 := pm.length_eq
    have hhs : nHs P w (L.take p ++ (x, k) :: L.drop p) = (nHs P w L).take p ++ g :: (nHs P w L).drop p := by
      unfold nHs
      rw [List.map_append, List.map_cons, List.map_take, List.map_drop, hg]
    rw [← hhs] at q3
    have nd1 : ((L.take p ++ (x, k) :: L.drop p).map (·.2)).Nodup := by
      refine (pm.map (·.2)).nodup_iff.mpr ?_
      rw [List.map_cons]
      exact List.nodup_cons.mpr ⟨hm, R.uniq⟩
    have hes : (SetTable.insertAt es p (g, Value.ref x)).size = L.length + 1 := by rw [rows_size hin, hlen]
    generalize SetTable.insertAt es p (g, Value.ref x) = es1 at hin hes ⊢
    generalize L.take p ++ (x, k) :: L.drop p = L1 at pm hlen q3 nd1 hin
    refine wpAny_bind (wpAny_storeSet_of ho hd ?_ (by rw [hes, sizeLine_eq]; omega))
    have sb : Heap.SameBut a s.heap (s.heap.update a (Obj.putSet es1 t1)) := Heap.SameBut.update ..
    have ho1 := store_at (es' := es1) (t' := t1) ho hd
    generalize s.heap.update a (Obj.putSet es1 t1) = h1 at sb ho1 ⊢
    have each1 : ∀ p ∈ L1, IsN P w sh h1 p.2 p.1 := fun p hp => by
      rcases List.mem_cons.mp (pm.mem_iff.mp hp) with e | hp
      · rw [e]
        exact hx.other ho hd hex sb
      · exact (R.each p hp).other ho hd hex sb
    have ld1 : w.params.followText "set-order" = true ∨ t1.led = true := by rw [q5]; exact R.led
    by_cases hf : t1.tooFull = true
    · first
        | (refine wpAny_bind ?_; refine wp_if_pos (by simp [hf]) ?_)
        | (refine wp_if_pos (by simp [hf]) ?_; refine wpAny_bind ?_)
      have hfull : (L.length + 1) * 5 ≥ t1.mask * 3 := by
        have h := hf
        unfold SetTable.tooFull at h
        rw [decide_eq_true_eq, q9, List.length_map] at h
        exact h
      rw [hsl]
      have hsz1 : t1.place.size = es1.size := by
        have h := q3.sz
        rw [List.length_map, hlen] at h
        rw [h, hes]
      have cases2 : (t.mask = 7 ∧ L.length = 4) ∨ (t.mask = 31 ∧ L.length = 18) := by
        rcases R.tab.mok with e | e | e
        · left
          rw [q4, e] at hfull
          rw [e] at hroom
          exact ⟨e, by omega⟩
        · right
          rw [q4, e] at hfull
          rw [e] at hroom
          exact ⟨e, by omega⟩
        · exfalso
          rw [q4, e] at hfull
          omega
      have go : ∀ M, SetTable.sizeAbove (SetTable.grown (L.length + 1)) - 1 = M → MaskOk M → SetTable.sizeAbove (SetTable.grown (L.length + 1)) ≤ 128 → (L.length + 1) * 5 < M * 3 →
          wpAny (model P w) A (setRelay a (SetTable.grown (L.length + 1))) (fun _ s' => wpAny (model P w) A (pure true) Q E s') E { s with heap := h1 } := fun M m1 m2 m3 m4 =>
        n_relay (s := { s with heap := h1 }) ho1 ⟨hex.1, hex.2.1, hex.2.2⟩ rfl hin hsz1 q3.dm (by rw [hes, q4]; rcases cases2 with ⟨e, e2⟩ | ⟨e, e2⟩ <;> omega) nd1 each1 hp1 ld1 (by rw [hlen]; exact hfew) m1 m2 m3 (by rw [hlen]; exact m4)
          fun h2 L2 es2 ep2 t2 sb2 R2 pm2 => wpAny_pure (hQ true h2 L2 es2 ep2 t2 (sb.trans sb2) R2 (fun z => absurd z hm) fun _ => pm2.trans pm)
      rcases cases2 with ⟨_, e2⟩ | ⟨_, e2⟩
      · exact go 31 (by rw [e2, size_20]) (.inr (.inl rfl)) (by rw [e2, size_20]; decide) (by omega)
      · exact go 127 (by rw [e2, size_76]) (.inr (.inr rfl)) (by rw [e2, size_76]; decide) (by omega)
    · first
        | refine wp_if_neg (by simp [hf]) ?_
        | (refine wpAny_bind ?_; refine wp_if_neg (by simp [hf]) ?_; refine wpAny_pure ?_)
      refine wpAny_pure (hQ true h1 L1 es1 (ep + 1) t1 sb ⟨⟨_, ho1, ⟨hex.1, hex.2.1, hex.2.2⟩, rfl⟩, hin, q3, nd1, each1, hp1, ld1, ?_, by rw [hlen]; exact hfew⟩ (fun z => absurd z hm) fun _ => pm)
      have h := hf
      unfold SetTable.tooFull at h
      rw [decide_eq_true_eq, q9, List.length_map] at h
      rw [hlen]
      omega
end
end Lh
set_option Elab.async false
set_option linter.all false
set_option maxRecDepth 100000
set_option maxHeartbeats 4000000
namespace Lh
open PySem PySem.Spec PyProof.Rows L2
/-- what the set has got from the first i items -/
structure Gat (ks : NL) (i : Nat) (L : NL) : Prop where
  sub : ∀ p ∈ L, p ∈ ks.take i
  all : ∀ p ∈ ks.take i, p.2 ∈ L.map (·.2)
  len : L.length ≤ i
theorem Gat.zero (ks : NL) : Gat ks 0 [] := ⟨fun p h => absurd h List.not_mem_nil, fun p h => absurd h (by rw [List.take_zero]; exact List.not_mem_nil), Nat.le_refl _⟩
theorem Gat.next {ks L L' : NL} {i : Nat} {y : Addr × List Itm} (g : Gat ks i L) (h : ks[i]? = some y) (c1 : y.2 ∈ L.map (·.2) → L' = L) (c2 : y.2 ∉ L.map (·.2) → L'.Perm (y :: L)) : Gat ks (i + 1) L' := by
  have e := take_next h
  by_cases c : y.2 ∈ L.map (·.2)
  · rw [c1 c]
    refine ⟨fun p hp => ?_, fun p hp => ?_, Nat.le_succ_of_le g.len⟩
    · rw [e]
      exact List.mem_append_left _ (g.sub p hp)
    · rw [e, List.mem_append, List.mem_singleton] at hp
      rcases hp with z | z
      · exact g.all p z
      · rw [z]
        exact c
  · have pm := c2 c
    refine ⟨fun p hp => ?_, fun p hp => ?_, by rw [pm.length_eq]; exact Nat.succ_le_succ g.len⟩
    · rw [e, List.mem_append, List.mem_singleton]
      exact (List.mem_cons.mp (pm.mem_iff.mp hp)).symm.imp (g.sub p) id
    · rw [(pm.map (·.2)).mem_iff, List.map_cons, List.mem_cons]
      rw [e, List.mem_append, List.mem_singleton] at hp
      exact hp.symm.imp (congrArg Prod.snd) (g.all p)
section
variable {P : Program} {w : World} {A : Around} {E : Value → Shared → Prop} {s : Shared} {sh : List Bool}
theorem NS.keep {h h' : Heap} {a : Addr} {L : NL} {es : Array (Int × Value)} {ep : Nat} {t : SetTable} (R : NS P w sh h a L es ep t) (ha : ∀ o, h.get? a = some o → h'.get? a = some o) (he : ∀ p ∈ L, IsN P w sh h' p.2 p.1) : NS P w sh h' a L es ep t := by
  obtain ⟨o, ho, r⟩ := R.obj
  exact ⟨⟨o, ha o ho, r⟩, R.rows, R.tab, R.uniq, he, R.plain, R.led, R.room, R.few⟩
theorem nS_new {h : Heap} {a : Addr} (ho : h.get? a = some (setEmpty w)) : NS P w sh h a [] #[] 0 (.fresh 0 0 (!w.params.followText "set-order")) where
  obj := ⟨_, ho, ⟨rfl, rfl, rfl⟩, rfl⟩
  rows := rfl
  tab := ⟨List.Pairwise.nil, rfl, rfl, .inl rfl, fun x hx => absurd hx List.not_mem_nil, fun i h j hi => absurd hi (by simp)⟩
  uniq := List.nodup_nil
  each := fun p hp => absurd hp List.not_mem_nil
  plain := rfl
  led := by
    show _ ∨ (!w.params.followText "set-order") = true
    cases w.params.followText "set-order"
    · exact .inr rfl
    · exact .inl rfl
  room := (by decide : 0 * 5 < 7 * 3)
  few := (by decide : 0 < 64)
theorem IsN.all {h h' : Heap} {k : List Itm} {b : Addr} (x : IsN P w sh h k b) (hk : ∀ c o, h.get? c = some o → h'.get? c = some o) : IsN P w sh h' k b := x.keep fun c o e _ => hk c o e
/-- the loop that adds what an iterator brings -/
theorem n_update {I : Addr} {fp wr : List Addr} {G : Array GenState → Array GenState → Prop} {n : Nat} {Pv : Nat → Value → Prop} {St : Nat → Shared → Prop} {R : Result → Shared → Prop}
    (W : WalksS P w A.in1 I fp wr G n Pv St) (S : Addr) (hSf : S ∉ fp) (ks : NL) (hn : n = ks.length) (hfew : ks.length < 64) (hval : ∀ i v, Pv i v → ∃ p, ks[i]? = some p ∧ v = .ref p.1)
    (h0 : Heap) (hk : ∀ p ∈ ks, IsN P w sh h0 p.2 p.1) (hS0 : h0.get? S = none) (hw0 : ∀ b ∈ wr, h0.get? b = none) (hu : A.units + 10 < cLine) :
    ∀ (k i : Nat) (s : Shared), n - i = k → i ≤ n → St i s → (∀ b o, h0.get? b = some o → s.heap.get? b = some o) → (∃ L es ep t, NS P w sh s.heap S L es ep t ∧ Gat ks i L) →
      (∀ s' L es ep t, Moved (S :: wr) G s s' → NS P w sh s'.heap S L es ep t → Gat ks n L → (∀ b o, h0.get? b = some o → s'.heap.get? b = some o) → R (.ok (.ret .none)) s') →
      codeAny (model P w) A (.builtin "set.update.loop" ⟨[.ref S, .ref I], []⟩) R s := by
  have hSw : S ∉ wr := fun h => hSf (W.sub _ h)
  have hsub : ∀ b ∈ wr, b ∈ S :: wr := fun b hb => List.mem_cons_of_mem _ hb
  have keepM : ∀ {s s' : Shared}, Moved wr G s s' → (∀ b o, h0.get? b = some o → s.heap.get? b = some o) → ∀ b o, h0.get? b = some o → s'.heap.get? b = some o := fun hm hkp b o e =>
    hm.heap b o (fun hb => by rw [hw0 b hb] at e; cases e) (hkp b o e)
  have inKs : ∀ {i : Nat} {L : NL}, Gat ks i L → ∀ p ∈ L, p ∈ ks := fun g p hp => List.mem_of_mem_take (g.sub p hp)
  intro k
  induction k with
  | zero =>
    intro i s hk' hi hst hkp ⟨L, es, ep, t, hS, g⟩ hR
    obtain rfl : i = n := by omega
    refine codeAny_builtin F.entry_set_update_loop ?_
    rw [Around.under_plainId F.plain_set_update_loop _]
    show wpAny _ A.in1 (pyNext (.ref I) >>= _) _ _ s
    refine wpAny_bind (W.done s _ _ hst fun s' hm => ?_)
    show wpAny _ A.in1 (ret Value.none) _ _ s'
    have hkp' := keepM hm hkp
    exact wpAny_pure (hR s' L es ep t (hm.mono hsub) (hS.keep (fun o e => hm.heap S o hSw e) fun p hp => (hk p (inKs g p hp)).all hkp') g hkp')
  | succ k ih =>
    intro i s hk' hi hst hkp ⟨L, es, ep, t, hS, g⟩ hR
    have hlt : i < n := by omega
    refine codeAny_builtin F.entry_set_update_loop ?_
    rw [Around.under_plainId F.plain_set_update_loop _]
    show wpAny _ A.in1 (pyNext (.ref I) >>= _) _ _ s
    refine wpAny_bind (W.item i s _ _ hlt hst fun v s' hP hst' hm => ?_)
    obtain ⟨p, hp, rfl⟩ := hval i v hP
    have hkp' := keepM hm hkp
    have hS' : NS P w sh s'.heap S L es ep t := hS.keep (fun o e => hm.heap S o hSw e) fun q hq => (hk q (inKs g q hq)).all hkp'
    have hx : IsN P w sh s'.heap p.2 p.1 := (hk p (List.mem_of_getElem? hp)).all hkp'
    show wpAny _ A.in1 (holding [Value.ref p.1] (setAdd S (.ref p.1)) >>= _) _ _ s'
    refine wpAny_bind (wpAny_holding ?_)
    unfold setAdd
    refine wpAny_holding ?_
    refine wpAny_bind (n_hash (by show A.units + 1 + 2 < cLine; omega) hx fun tt htt => ?_)
    refine n_add (s := { s' with toks := tt }) hS' hx (by show A.units + 1 + 4 < cLine; omega) (by have := g.len; omega) rfl fun b h' L' es' ep' t' hsb hS2 c1 c2 => ?_
    have hkp2 : ∀ b o, h0.get? b = some o → h'.get? b = some o := fun b o e => (hsb.2 b (fun z => by rw [z, hS0] at e; cases e)).trans (hkp' b o e)
    refine wpAny_pure ⟨plainId_quiet F.plain_set_update_loop _, ih (i + 1) _ (by omega) hlt (W.frame _ s' _ _ hst' htt fun b hb o e => ?_) hkp2 ⟨L', es', ep', t', hS2, g.next hp c1 c2⟩ fun s'' L2 es2 ep2 t2 hm'' hS'' g'' hkp'' => ?_⟩
    · rw [hsb.2 b (fun h : b = S => hSf (by rw [← h]; exact hb))]
      exact e
    · refine hR s'' L2 es2 ep2 t2 (Moved.trans W.gtrans ((hm.mono hsub).then_heap htt fun b o hb e => ?_) hm'') hS'' g'' hkp''
      rw [hsb.2 b (fun h : b = S => hb (by rw [h]; exact List.mem_cons_self))]
      exact e
theorem n_set_list {l : Addr} {items : Array Value} (ks : NL) {Q : Value → Shared → Prop} (hh : A.handled = none) (hl : s.heap.IsList l items) (hit : items.toList = ks.map fun p => Value.ref p.1)
    (hk : ∀ p ∈ ks, IsN P w sh s.heap p.2 p.1) (hfew : ks.length < 64) (hu : A.units + 14 < cLine)
    (h : ∀ (h' : Heap) (tk : Nat) L es ep t, NS P w sh h' s.heap.objs.size L es ep t → Gat ks ks.length L → (∀ b o, s.heap.get? b = some o → h'.get? b = some o) → Q (.ref s.heap.objs.size) { s with heap := h', toks := tk }) :
    wpAny (model P w) A (call (.type "set") [.ref l]) Q E s := by
  have hisz : items.size = ks.length := by rw [← Array.length_toList, hit, List.length_map]
  obtain ⟨c, tl, hmro⟩ := F.called_set.mro
  have hmade := F.called_set.made
  have hsub := F.called_set.sub
  refine wpAny_call (codeAny_of_tree ?_)
  show wpAny _ _ (callAny (.type "set") _) _ _ _
  refine wpAny_pure ⟨Code.quiet_builtin _ (by decide +kernel), codeAny_builtin F.entry_type_call ?_⟩
  rw [Around.under_plain (weight_type_call_type "set" [.ref l] []) rfl]
  have h1 := F.called_set.notType
  have h2 := F.called_set.canCreate
  have hct := F.typeCall_set_1 (.ref l)
  repeat (any_goals (first | assumption | wp_step))
  have hn1 : ∀ o, s.heap.get? l = some o → (s.heap.push (setEmpty w)).get? l = some o := fun o e => Heap.get?_push_of_some _ e
  have hS : (s.heap.push (setEmpty w)).get? s.heap.objs.size = some (setEmpty w) := Heap.get?_push_size _ rfl
  have hz : (s.heap.push (setEmpty w)).objs.size = s.heap.objs.size + 1 := Heap.size_push ..
  refine codeAny_mono (code_set_led1 (.ref l) (E := E) (Q₁ := fun obj s₁ => obj = .ref s.heap.objs.size ∧ s₁ = { s with heap := s.heap.push (setEmpty w) }) ⟨rfl, rfl⟩) fun r s₁ hr => ?_
  cases r with
  | error e => exact hr
  | ok fl =>
    cases fl with
    | ret obj =>
      obtain ⟨rfl, rfl⟩ := hr
      have hT : Shared.TypeIs { s with heap := s.heap.push (setEmpty w) } (.ref s.heap.objs.size) "set" := ⟨_, hS, rfl⟩
      have hli := F.called_set.init.lookup
      have hbi := F.called_set.init.bind (.ref s.heap.objs.size)
      repeat (any_goals (first | assumption | wp_step))
      refine codeAny_mono (codeAny_call_builtin (R := wants (fun r s₂ => r = .none ∧ ∃ h' tk L es ep t, s₂ = { s with heap := h', toks := tk } ∧ NS P w sh h' s.heap.objs.size L es ep t ∧ Gat ks ks.length L ∧
          (∀ b o, s.heap.get? b = some o → h'.get? b = some o)) E) F.called_set.init.plain F.entry_set_init (check_set_init_1 hT ?_)) fun r₂ s₂ hr₂ => ?_
      · obtain ⟨⟨ocls, odict, odata, oslots⟩, hol, hcl, nl, hdl⟩ := hl
        simp only at hcl hdl
        subst hcl; subst hdl
        have hol' := hn1 _ hol
        have hsls := F.sub_list_set
        have hslf := F.sub_list_frozenset
        have hne : (Value.type "list" == Value.type "dict") = false := by decide
        have hl1 : (s.heap.push (setEmpty w)).IsList l items := ⟨_, hol', rfl, nl, rfl⟩
        unfold Builtin.«set.__init__» noKeywords Builtin.Frozenset.updateFrom
        generalize hPI : pyIter = PI
        wp_walk
        subst hPI
        refine wpAny_pyIter_list hl1 ?_
        refine wpAny_bind (wpAny_runValue ?_)
        have hlS : l < s.heap.objs.size := Heap.lt_size hol
        have hh3 : A.in1.in1.in1.handled = none := by simp [hh]
        have hneI : l ≠ (s.heap.push (setEmpty w)).objs.size := by
          rw [hz]
          exact Nat.ne_of_lt (Nat.lt_succ_of_lt hlS)
        have hSf : s.heap.objs.size ∉ [(s.heap.push (setEmpty w)).objs.size, l] := by
          simp only [List.mem_cons, List.not_mem_nil, or_false, not_or]
          rw [hz]
          exact ⟨Nat.ne_of_lt (Nat.lt_succ_self _), Nat.ne_of_gt hlS⟩
        have hval : ∀ (i : Nat) (v : Value), items[i]? = some v → ∃ p, ks[i]? = some p ∧ v = .ref p.1 := fun i v hv => by
          rw [← Array.getElem?_toList, hit, List.getElem?_map] at hv
          cases hq : ks[i]? with
          | none =>
            rw [hq] at hv
            cases hv
          | some p =>
            rw [hq] at hv
            exact ⟨p, rfl, (Option.some.inj hv).symm⟩
        have fresh : ∀ b, s.heap.objs.size ≤ b → s.heap.get? b = none := fun b hb => Heap.get?_none_of_le hb
        refine n_update ((Walks.list hh3 _ l hneI items).toS) s.heap.objs.size hSf ks hisz hfew hval s.heap hk (fresh _ (Nat.le_refl _)) (fun b hb => fresh b (by
            rw [List.mem_singleton.mp hb]
            exact Nat.le_trans (Nat.le_succ _) (Nat.le_of_eq hz.symm))) (by show A.units + 1 + 1 + 10 < cLine; omega) (items.size - 0) 0 _ (by omega) (Nat.zero_le _)
          ⟨⟨_, Heap.get?_push_size _ rfl, rfl, rfl⟩, (hl1.push _)⟩ (fun b o e => Heap.get?_push_of_some _ (Heap.get?_push_of_some _ e)) ⟨[], #[], 0, _, nS_new (Heap.get?_push_of_some _ hS), Gat.zero ks⟩ ?_
        intro s' L es ep t hm hS' g' hkp
        obtain ⟨h', g2, d', tk', os'⟩ := s'
        have eg : g2 = s.gens := hm.gens
        have ed : d' = s.drawn := hm.drawn
        have eo : os' = s.os := hm.os
        subst eg; subst ed; subst eo
        show wpAny _ _ _ _ _ _
        refine wpAny_pure ?_
        show wpAny _ _ (ret Value.none) _ _ _
        rw [hisz] at g'
        exact wpAny_pure ⟨rfl, h', tk', L, es, ep, t, rfl, hS', g', hkp⟩
      · cases r₂ with
        | error e => exact hr₂
        | ok fl₂ =>
          cases fl₂ with
          | ret r =>
            obtain ⟨rfl, h', tk, L, es, ep, t, rfl, hS', g', hk'⟩ := hr₂
            repeat (any_goals (first | assumption | wp_step))
            exact h _ _ _ _ _ _ hS' g' hk'
          | _ => exact hr₂.elim
    | _ => exact hr.elim
theorem n_set_tuple {l : Addr} {items : Array Value} (ks : NL) {Q : Value → Shared → Prop} (hh : A.handled = none) (hl : s.heap.IsTuple l items) (hit : items.toList = ks.map fun p => Value.ref p.1)
    (hk : ∀ p ∈ ks, IsN P w sh s.heap p.2 p.1) (hfew : ks.length < 64) (hu : A.units + 14 < cLine)
    (h : ∀ (h' : Heap) (tk : Nat) L es ep t, NS P w sh h' s.heap.objs.size L es ep t → Gat ks ks.length L → (∀ b o, s.heap.get? b = some o → h'.get? b = some o) → Q (.ref s.heap.objs.size) { s with heap := h', toks := tk }) :
    wpAny (model P w) A (call (.type "set") [.ref l]) Q E s := by
  have hisz : items.size = ks.length := by rw [← Array.length_toList, hit, List.length_map]
  obtain ⟨c, tl, hmro⟩ := F.called_set.mro
  have hmade := F.called_set.made
  have hsub := F.called_set.sub
  refine wpAny_call (codeAny_of_tree ?_)
  show wpAny _ _ (callAny (.type "set") _) _ _ _
  refine wpAny_pure ⟨Code.quiet_builtin _ (by decide +kernel), codeAny_builtin F.entry_type_call ?_⟩
  rw [Around.under_plain (weight_type_call_type "set" [.ref l] []) rfl]
  have h1 := F.called_set.notType
  have h2 := F.called_set.canCreate
  have hct := F.typeCall_set_1 (.ref l)
  repeat (any_goals (first | assumption | wp_step))
  have hn1 : ∀ o, s.heap.get? l = some o → (s.heap.push (setEmpty w)).get? l = some o := fun o e => Heap.get?_push_of_some _ e
  have hS : (s.heap.push (setEmpty w)).get? s.heap.objs.size = some (setEmpty w) := Heap.get?_push_size _ rfl
  have hz : (s.heap.push (setEmpty w)).objs.size = s.heap.objs.size + 1 := Heap.size_push ..
  refine codeAny_mono (code_set_led1 (.ref l) (E := E) (Q₁ := fun obj s₁ => obj = .ref s.heap.objs.size ∧ s₁ = { s with heap := s.heap.push (setEmpty w) }) ⟨rfl, rfl⟩) fun r s₁ hr => ?_
  cases r with
  | error e => exact hr
  | ok fl =>
    cases fl with
    | ret obj =>
      obtain ⟨rfl, rfl⟩ := hr
      have hT : Shared.TypeIs { s with heap := s.heap.push (setEmpty w) } (.ref s.heap.objs.size) "set" := ⟨_, hS, rfl⟩
      have hli := F.called_set.init.lookup
      have hbi := F.called_set.init.bind (.ref s.heap.objs.size)
      repeat (any_goals (first | assumption | wp_step))
      refine codeAny_mono (codeAny_call_builtin (R := wants (fun r s₂ => r = .none ∧ ∃ h' tk L es ep t, s₂ = { s with heap := h', toks := tk } ∧ NS P w sh h' s.heap.objs.size L es ep t ∧ Gat ks ks.length L ∧
          (∀ b o, s.heap.get? b = some o → h'.get? b = some o)) E) F.called_set.init.plain F.entry_set_init (check_set_init_1 hT ?_)) fun r₂ s₂ hr₂ => ?_
      · obtain ⟨⟨ocls, odict, odata, oslots⟩, hol, hcl, nl, hdl⟩ := hl
        simp only at hcl hdl
        subst hcl; subst hdl
        have hol' := hn1 _ hol
        have hsls := F.sub_tuple_set
        have hslf := F.sub_tuple_frozenset
        have hne : (Value.type "tuple" == Value.type "dict") = false := by decide
        have hl1 : (s.heap.push (setEmpty w)).IsTuple l items := ⟨_, hol', rfl, nl, rfl⟩
        unfold Builtin.«set.__init__» noKeywords Builtin.Frozenset.updateFrom
        generalize hPI : pyIter = PI
        wp_walk
        subst hPI
        refine wpAny_pyIter_tuple hl1 ?_
        refine wpAny_bind (wpAny_runValue ?_)
        have hlS : l < s.heap.objs.size := Heap.lt_size hol
        have hh3 : A.in1.in1.in1.handled = none := by simp [hh]
        have hneI : l ≠ (s.heap.push (setEmpty w)).objs.size := by
          rw [hz]
          exact Nat.ne_of_lt (Nat.lt_succ_of_lt hlS)
        have hSf : s.heap.objs.size ∉ [(s.heap.push (setEmpty w)).objs.size, l] := by
          simp only [List.mem_cons, List.not_mem_nil, or_false, not_or]
          rw [hz]
          exact ⟨Nat.ne_of_lt (Nat.lt_succ_self _), Nat.ne_of_gt hlS⟩
        have hval : ∀ (i : Nat) (v : Value), items[i]? = some v → ∃ p, ks[i]? = some p ∧ v = .ref p.1 := fun i v hv => by
          rw [← Array.getElem?_toList, hit, List.getElem?_map] at hv
          cases hq : ks[i]? with
          | none =>
            rw [hq] at hv
            cases hv
          | some p =>
            rw [hq] at hv
            exact ⟨p, rfl, (Option.some.inj hv).symm⟩
        have fresh : ∀ b, s.heap.objs.size ≤ b → s.heap.get? b = none := fun b hb => Heap.get?_none_of_le hb
        refine n_update ((Walks.tuple hh3 _ l hneI items).toS) s.heap.objs.size hSf ks hisz hfew hval s.heap hk (fresh _ (Nat.le_refl _)) (fun b hb => fresh b (by
            rw [List.mem_singleton.mp hb]
            exact Nat.le_trans (Nat.le_succ _) (Nat.le_of_eq hz.symm))) (by show A.units + 1 + 1 + 10 < cLine; omega) (items.size - 0) 0 _ (by omega) (Nat.zero_le _)
          ⟨⟨_, Heap.get?_push_size _ rfl, rfl, rfl⟩, (hl1.push _)⟩ (fun b o e => Heap.get?_push_of_some _ (Heap.get?_push_of_some _ e)) ⟨[], #[], 0, _, nS_new (Heap.get?_push_of_some _ hS), Gat.zero ks⟩ ?_
        intro s' L es ep t hm hS' g' hkp
        obtain ⟨h', g2, d', tk', os'⟩ := s'
        have eg : g2 = s.gens := hm.gens
        have ed : d' = s.drawn := hm.drawn
        have eo : os' = s.os := hm.os
        subst eg; subst ed; subst eo
        show wpAny _ _ _ _ _ _
        refine wpAny_pure ?_
        show wpAny _ _ (ret Value.none) _ _ _
        rw [hisz] at g'
        exact wpAny_pure ⟨rfl, h', tk', L, es, ep, t, rfl, hS', g', hkp⟩
      · cases r₂ with
        | error e => exact hr₂
        | ok fl₂ =>
          cases fl₂ with
          | ret r =>
            obtain ⟨rfl, h', tk, L, es, ep, t, rfl, hS', g', hk'⟩ := hr₂
            repeat (any_goals (first | assumption | wp_step))
            exact h _ _ _ _ _ _ hS' g' hk'
          | _ => exact hr₂.elim
    | _ => exact hr.elim
end
end Lh
set_option Elab.async false
set_option linter.all false
set_option maxRecDepth 100000
set_option maxHeartbeats 4000000
namespace Lh
open PySem PySem.Spec PyProof.Rows L2
theorem perm_lift {α β : Type} (f : α → β) {vs ys : List β} (p : vs.Perm ys) : ∀ L : List α, ys = L.map f → ∃ L1 : List α, vs = L1.map f ∧ L1.Perm L := by
  induction p with
  | nil =>
    intro L h
    cases L with
    | nil => exact ⟨[], rfl, .refl _⟩
    | cons q L => cases h
  | cons x _ ih =>
    intro L h
    cases L with
    | nil => cases h
    | cons q L =>
      rw [List.map_cons] at h
      injection h with h1 h2
      obtain ⟨L1, e, p⟩ := ih L h2
      exact ⟨q :: L1, by rw [e, List.map_cons, h1], p.cons q⟩
  | swap x y l =>
    intro L h
    match L, h with
    | q :: r :: L, h =>
      rw [List.map_cons, List.map_cons] at h
      injection h with h1 h2
      injection h2 with h2 h3
      exact ⟨r :: q :: L, by rw [List.map_cons, List.map_cons, h1, h2, h3], .swap ..⟩
  | trans _ _ ih1 ih2 =>
    intro L h
    obtain ⟨L2, e2, p2⟩ := ih2 L h
    obtain ⟨L1, e1, p1⟩ := ih1 L2 e2
    exact ⟨L1, e1, p1.trans p2⟩
def itD : Itm → PyData
  | .inl i => .int i
  | .inr ns => .tuple (ns.map .int)
def encK (k : List Itm) : PyData := .tuple (k.map itD)
theorem alike_it : ∀ {x y : Itm}, x.isLeft = y.isLeft → PySem.W.alike (itD x) (itD y) = true
  | .inl _, .inl _, _ => by simp [itD, PySem.W.alike]
  | .inl _, .inr _, h => nomatch h
  | .inr _, .inl _, h => nomatch h
  | .inr a, .inr b, _ => by
    show PySem.W.alike (.tuple (a.map .int)) (.tuple (b.map .int)) = true
    rw [PySem.W.alike]
    exact PySem.W.alike_ints a b
theorem alike_its : ∀ {x y : List Itm}, x.map Sum.isLeft = y.map Sum.isLeft → PySem.W.alikeAll (x.map itD) (y.map itD) = true
  | [], _, _ => by simp [PySem.W.alikeAll]
  | _ :: _, [], h => nomatch h
  | a :: x, b :: y, h => by
    rw [List.map_cons, List.map_cons, List.cons.injEq] at h
    rw [List.map_cons, List.map_cons, PySem.W.alikeAll, alike_it h.1, alike_its h.2]
    rfl
theorem depth_it : ∀ x : Itm, (itD x).depth ≤ 1
  | .inl _ => by simp [itD, PyData.depth]
  | .inr a => by
    show PyData.depth (.tuple (a.map .int)) ≤ 1
    rw [PyData.depth, PySem.W.depth_ints]
    exact Nat.le_refl _
theorem depth_its : ∀ k : List Itm, PyData.depthAll (k.map itD) ≤ 1
  | [] => by simp [PyData.depthAll]
  | x :: k => by
    rw [List.map_cons, PyData.depthAll]
    exact Nat.max_le.mpr ⟨depth_it x, depth_its k⟩
theorem depth_key (k : List Itm) : (encK k).depth ≤ 2 := by
  show PyData.depth (.tuple (k.map itD)) ≤ 2
  rw [PyData.depth]
  have := depth_its k
  omega
section
variable {P : Program} {w : World} {A : Around} {E : Value → Shared → Prop} {s : Shared} {sh : List Bool}
theorem reads_ints {h : Heap} : ∀ {k : List Int} {vs : List Value}, ItemsAre (intKind P w) k vs → PySem.ReadsAll h vs (k.map .int) []
  | [], _, .nil => .nil
  | i :: k, _, .cons a t => by
    obtain ⟨t', rfl⟩ := Value.isInt_shape a
    exact .cons (as := []) (bs := []) (.int i t') (reads_ints t)
theorem reads_it {h : Heap} : ∀ {x : Itm} {v : Value}, IsItm P w h x v → PySem.Reads h v (itD x) []
  | .inl i, v, ⟨t, e⟩ => by
    subst e
    exact .int i t
  | .inr ns, v, ⟨b, e, o, its, n, e1, e2, e3, e4⟩ => by
    subst e
    exact .tuple e1 e2 e3 (reads_ints e4)
theorem reads_its {h : Heap} : ∀ {k : List Itm} {vs : List Value}, Its P w h k vs → PySem.ReadsAll h vs (k.map itD) []
  | _, _, .nil => .nil
  | _, _, .cons a t => .cons (as := []) (bs := []) (reads_it a) (reads_its t)
theorem IsN.reads {h : Heap} {k : List Itm} {b : Addr} (x : IsN P w sh h k b) : PySem.Reads h (.ref b) (encK k) [] := by
  obtain ⟨o, its, n, e1, e2, e3, e4⟩ := x.ob
  exact .tuple e1 e2 e3 (reads_its e4)
/-- no later one is less -/
def keyLt (x y : List Itm) : Bool := PySem.W.dataLt (encK x) (encK y)
theorem each_refs {R : Value → Addr × List Itm → Prop} : ∀ L : NL, (∀ q ∈ L, R (.ref q.1) q) → PySem.W.EachIs R (L.map fun q => Value.ref q.1) L
  | [], _ => .nil
  | q :: L, h => .cons (h q List.mem_cons_self) (each_refs L fun z hz => h z (List.mem_cons_of_mem _ hz))
theorem refs_each : ∀ {out : List Value} {L : NL}, PySem.W.EachIs (fun v (q : Addr × List Itm) => v = Value.ref q.1) out L → out = L.map fun q => Value.ref q.1
  | _, _, .nil => rfl
  | _, _, .cons a t => by rw [List.map_cons, a, refs_each t]
theorem n_sorted {a : Addr} {L : NL} {es : Array (Int × Value)} {ep : Nat} {t : SetTable} {Q : Value → Shared → Prop} (R : NS P w sh s.heap a L es ep t) (hh : A.handled = none) (hu : A.units + 20 < cLine) (hne : sh ≠ [])
    (hQ : ∀ s' p (out : Array Value) (c : Nat) (M : NL), (∀ b o, s.heap.get? b = some o → s'.heap.get? b = some o) → s'.gens = s.gens → s'.os = s.os → s.heap.objs.size ≤ p →
      s'.heap.get? p = some (seqObj "list" out c) → out.toList = M.map (fun q => Value.ref q.1) → M.Perm L → M.Pairwise (fun q r => keyLt r.2 q.2 = false) → Q (.ref p) s') :
    wpAny (model P w) A (call (.builtin "sorted") [.ref a]) Q E s := by
  obtain ⟨o, ho, hex, hd⟩ := R.obj
  have hsz := R.size
  have hfew := R.few
  refine Calls.call_function_entry kind_sorted plain_sorted entry_sorted (args_sorted1 _) ?_
  unfold Builtin.«sorted»
  refine wpAny_bind (m := checkCount "sorted" 1 1 _) (wpAny_pure ?_)
  refine wpAny_bind (collect_set (A := A.in1) hh ⟨o, ho, hex.1, hd⟩ R.fits (by unfold scanBound; omega) R.tab.ris R.led fun s1 vs k1 hz g1 o1 pm => ?_)
  have hes : es.toList.map (·.2) = L.map fun q => Value.ref q.1 := by
    rw [R.rows]
    unfold nRows
    rw [List.map_map]
    rfl
  rw [hes] at pm
  obtain ⟨L1, rfl, p1⟩ := perm_lift (fun q : Addr × List Itm => Value.ref q.1) pm L rfl
  have hl1 : L1.length = L.length := p1.length_eq
  refine wpAny_bind (wpAny_newList ?_ (by rw [List.length_map, sizeLine_eq]; omega))
  have hoL : (s1.heap.push (seqObj "list" (L1.map fun q => Value.ref q.1).toArray 0)).get? s1.heap.objs.size = some (seqObj "list" (L1.map fun q => Value.ref q.1).toArray 0) := Heap.get?_push_size _ rfl
  have isN : ∀ q ∈ L1, IsN P w sh (s1.heap.push (seqObj "list" (L1.map fun q => Value.ref q.1).toArray 0)) q.2 q.1 := fun q hq =>
    (R.each q (p1.mem_iff.mp hq)).all fun b u e => Heap.get?_push_of_some _ (k1 b u e)
  have hal : PySem.W.AllAlike (L1.map fun q => encK q.2) := fun d hd d' hd' => by
    obtain ⟨q, hq, rfl⟩ := List.mem_map.mp hd
    obtain ⟨r, hr, rfl⟩ := List.mem_map.mp hd'
    show PySem.W.alike (.tuple _) (.tuple _) = true
    rw [PySem.W.alike]
    exact alike_its ((isN q hq).shape.trans (isN r hr).shape.symm)
  have hso : PySem.W.Sortable (L1.map fun q => encK q.2) := .inl fun d hd => by
    obtain ⟨q, hq, rfl⟩ := List.mem_map.mp hd
    have e := (isN q hq).shape
    cases hk : q.2 with
    | nil =>
      rw [hk] at e
      exact absurd e.symm hne
    | cons x r => exact ⟨itD x, r.map itD, rfl⟩
  refine wpAny_bind (wpAny_holding (PySem.W.list_sort_data (s := { s1 with heap := s1.heap.push (seqObj "list" (L1.map fun q => Value.ref q.1).toArray 0) }) (enc := fun q : Addr × List Itm => encK q.2) (R := fun v q => v = Value.ref q.1) (bs := L1) hoL
    (each_refs L1 fun q _ => rfl) (each_refs L1 fun q hq => ⟨[], (isN q hq).reads, List.not_mem_nil⟩) hal hso (by rw [sizeLine_eq]; omega) (fun q hq => by have := depth_key q.2; show A.units + 1 + 1 + _ < cLine; omega) fun out hlen he => ?_))
  have e' := refs_each he
  obtain ⟨c, hc⟩ := sortedHeap_at (vs := L1.map fun q => Value.ref q.1) (out := out.toArray) hoL
  have pM : (L1.mergeSort (PySem.W.dataLe false fun q : Addr × List Itm => encK q.2)).Perm L := (List.mergeSort_perm _ _).trans p1
  refine wpAny_pure ⟨_, rfl, hQ _ s1.heap.objs.size out.toArray c _ (fun b u e => ?_) g1 o1 hz hc (by rw [List.toList_toArray]; exact e') pM ?_⟩
  · have q := k1 b u e
    have hlt := Heap.lt_size q
    show (sortedHeap (s1.heap.push (seqObj "list" (L1.map fun q => Value.ref q.1).toArray 0)) s1.heap.objs.size (L1.map fun q => Value.ref q.1) out.toArray).get? b = some u
    rw [sortedHeap_old (Nat.ne_of_lt hlt) (by rw [size_push']; exact Nat.lt_succ_of_lt hlt)]
    exact Heap.get?_push_of_some _ q
  · have hs := List.pairwise_mergeSort (le := PySem.W.dataLe false fun q : Addr × List Itm => encK q.2) ?_ ?_ L1
    · refine hs.imp fun {q r} hle => ?_
      have hle' : (!PySem.W.dataLt (encK r.2) (encK q.2)) = true := hle
      rwa [Bool.not_eq_true'] at hle'
    · intro x y z h1 h2
      have h1' : (!PySem.W.dataLt (encK y.2) (encK x.2)) = true := h1
      have h2' : (!PySem.W.dataLt (encK z.2) (encK y.2)) = true := h2
      show (!PySem.W.dataLt (encK z.2) (encK x.2)) = true
      rw [Bool.not_eq_true'] at h1' h2' ⊢
      cases e : PySem.W.dataLt (encK z.2) (encK x.2) with
      | false => rfl
      | true =>
        rcases (listOrd itemOrd).negTrans _ (PySem.W.keyToks (encK y.2)) _ e with q | q
        · rw [show PySem.W.dataLt (encK z.2) (encK y.2) = true from q] at h2'
          cases h2'
        · rw [show PySem.W.dataLt (encK y.2) (encK x.2) = true from q] at h1'
          cases h1'
    · intro x y
      show ((!PySem.W.dataLt (encK y.2) (encK x.2)) || (!PySem.W.dataLt (encK x.2) (encK y.2))) = true
      cases e : PySem.W.dataLt (encK y.2) (encK x.2) with
      | false => rfl
      | true =>
        cases e2 : PySem.W.dataLt (encK x.2) (encK y.2) with
        | false => rfl
        | true =>
          have q := (listOrd itemOrd).trans _ _ _ e e2
          have q' : PySem.W.dataLt (encK y.2) (encK y.2) = true := q
          have q2 : PySem.W.dataLt (encK y.2) (encK y.2) = false := (listOrd itemOrd).irrefl _
          rw [q2] at q'
          cases q'
end
end Lh
set_option Elab.async false
set_option linter.all false
set_option maxRecDepth 100000
set_option maxHeartbeats 4000000
namespace Lh
open PySem PySem.Spec PyProof.Rows L2 RZ
section
variable {prog : Program} {w : World} {A : Around} {E : Value → Shared → Prop} {s : Shared} {z TI TO i1 i2 l1 l2 : Addr} {k1 k2 : Nat} {xs ys : Array Value} {x y a b : Value}
/-- a zip at z over a list at l1 and a tuple at l2, k1 and k2 items being drawn -/
structure ZM (h : Heap) (z TI TO i1 i2 l1 l2 : Addr) (k1 k2 : Nat) : Prop where
  zip : IsZip h z TI TO .none
  ins : IsPair h TI (.ref i1) (.ref i2)
  out : ∃ x y, IsPair h TO x y
  one : h.IsListIter i1 l1 k1
  two : h.IsTupleIter i2 l2 k2
theorem zm_item {Q : Option Value → Shared → Prop} (D : ZipApart z TI TO i1 i2 l1 l2) (Z : ZM s.heap z TI TO i1 i2 l1 l2 k1 k2) (hl1 : s.heap.IsList l1 xs) (hl2 : s.heap.IsTuple l2 ys) (hx : xs[k1]? = some x) (hy : ys[k2]? = some y)
    (hQ : ∀ h', IsZip h' z TI TO (rawInt s.heap.objs.size) → IsPair h' TO x y → h'.IsListIter i1 l1 (k1 + 1) → h'.IsTupleIter i2 l2 (k2 + 1) → IsPair h' s.heap.objs.size x y → h'.objs.size = s.heap.objs.size + 1 →
      (∀ c o, c ≠ z → c ≠ TO → c ≠ i1 → c ≠ i2 → s.heap.get? c = some o → h'.get? c = some o) → Q (some (.ref s.heap.objs.size)) { s with heap := h' }) :
    wpAny (model prog w) A (pyNext (.ref z)) Q E s := by
  obtain ⟨hz, hTI, ⟨a, b, hTO⟩, h1, h2⟩ := Z
  have hT : s.TypeIs (.ref z) "zip" := ⟨_, hz, rfl⟩
  unfold pyNext
  refine wpAny_bind (wpAny_attempt (wpAny_callSpecial?_slot (name := Str.ofString "__next__") hT F.slot_zip_next (wpAny_call_entry F.slot_zip_next hT F.entry_zip_next ?_ (F.args_zip_next_1 _))))
  show wpAny _ _ (field (.ref z) 2 >>= _) _ _ _
  refine wpAny_bind (wpAny_field hz rfl (x := .bool false) rfl ?_)
  show wpAny _ _ (field (.ref z) 3 >>= _) _ _ _
  refine wpAny_bind (wpAny_field hz rfl (x := .ref TI) rfl ?_)
  refine wpAny_bind (wpAny_seqItems hTI rfl ?_)
  show wpAny _ _ (Builtin.SmallTypes.ownedTupleIsFree (.ref z) >>= _) _ _ _
  refine wpAny_bind ?_
  unfold Builtin.SmallTypes.ownedTupleIsFree
  refine wpAny_bind (wpAny_field hz rfl (x := .none) rfl (wpAny_pure ?_))
  simp only [if_true]
  refine wpAny_bind (wpAny_rule ?_)
  refine wpAny_bind (wpAny_field hz rfl (x := .ref TO) rfl ?_)
  refine wpAny_bind (wpAny_setField_rec hz (by simp) fun g1 z1 c1 => ?_)
  replace z1 : IsZip g1 z TI TO .ellipsis := z1
  refine wpAny_bind ?_
  simp only [List.zipIdx_cons, List.zipIdx_nil, List.forIn_cons, List.forIn_nil]
  -- the list's item
  refine wpAny_bind (wpAny_bind (wpAny_onRaise ?_))
  show wpAny _ _ (Builtin.SmallTypes.nextOf (.ref i1) >>= _) _ _ _
  refine wpAny_bind (wpAny_nextOf_list_item (h1.at fun o e => c1.extBut _ _ D.i1z e) (hl1.at fun o e => c1.extBut _ _ D.l1z e) hx fun g2 n1 c2 => wpAny_pure ?_)
  have o2 : IsPair g2 TO a b := c2.extBut _ _ D.TOi1 (c1.extBut _ _ D.TOz hTO)
  refine wpAny_bind (wpAny_seqItems o2 rfl ?_)
  refine wpAny_bind (wpAny_updateSeq_pair o2 fun g3 o3 c3 => ?_)
  replace o3 : IsPair g3 TO x b := o3
  refine wpAny_bind (wpAny_letGo (wpAny_pure ?_))
  -- the tuple's item
  refine wpAny_bind (wpAny_bind (wpAny_onRaise ?_))
  show wpAny _ _ (Builtin.SmallTypes.nextOf (.ref i2) >>= _) _ _ _
  refine wpAny_bind (nextOf_tuple_item (h2.at fun o e => c3.extBut _ _ D.TOi2.symm (c2.extBut _ _ D.i12.symm (c1.extBut _ _ D.i2z e))) (hl2.at fun o e => c3.extBut _ _ D.l2TO (c2.extBut _ _ D.l2i1 (c1.extBut _ _ D.l2z e))) hy fun g4 n2 c4 => wpAny_pure ?_)
  have o4 : IsPair g4 TO x b := c4.extBut _ _ D.TOi2 o3
  refine wpAny_bind (wpAny_seqItems o4 rfl ?_)
  refine wpAny_bind (wpAny_updateSeq_pair o4 fun g5 o5 c5 => ?_)
  replace o5 : IsPair g5 TO x y := o5
  refine wpAny_bind (wpAny_letGo (wpAny_pure (wpAny_pure ?_)))
  -- the pair
  refine wpAny_bind (wpAny_seqItems o5 rfl ?_)
  refine wpAny_bind (wpAny_newTuple ?_)
  have hsz : g5.objs.size = s.heap.objs.size := by rw [c5.1, c4.1, c3.1, c2.1, c1.1]
  have z5 : IsZip g5 z TI TO .ellipsis := c5.extBut _ _ D.TOz.symm (c4.extBut _ _ D.i2z.symm (c3.extBut _ _ D.TOz.symm (c2.extBut _ _ D.i1z.symm z1)))
  have k5 : ∀ c o, c ≠ z → c ≠ TO → c ≠ i1 → c ≠ i2 → s.heap.get? c = some o → g5.get? c = some o := fun c o q1 q2 q3 q4 e =>
    c5.extBut _ _ q2 (c4.extBut _ _ q4 (c3.extBut _ _ q2 (c2.extBut _ _ q3 (c1.extBut _ _ q1 e))))
  have m1 : g5.IsListIter i1 l1 (k1 + 1) := n1.at fun o e => c5.extBut _ _ D.TOi1.symm (c4.extBut _ _ D.i12 (c3.extBut _ _ D.TOi1.symm e))
  have m2 : g5.IsTupleIter i2 l2 (k2 + 1) := n2.at fun o e => c5.extBut _ _ D.TOi2.symm e
  have hzlt : z < g5.objs.size := Heap.lt_size z5
  show wpAny _ _ (Builtin.SmallTypes.ownedTupleHandOut (.ref z) (.ref g5.objs.size) >>= _) _ _ _
  refine wpAny_bind ?_
  unfold Builtin.SmallTypes.ownedTupleHandOut
  have z6 : IsZip (g5.push { cls := .type "tuple", data := .seq #[x, y] }) z TI TO .ellipsis := Heap.get?_push_of_some _ z5
  refine wpAny_bind (wpAny_setField_rec z6 (by simp) fun g7 z7 c7 => ?_)
  replace z7 : IsZip g7 z TI TO (rawInt g5.objs.size) := z7
  refine wpAny_setField_rec z7 (by simp) fun g8 z8 c8 => ?_
  replace z8 : IsZip g8 z TI TO (rawInt g5.objs.size) := z8
  have up : ∀ c o, c ≠ z → g5.get? c = some o → g8.get? c = some o := fun c o q e => c8.extBut _ _ q (c7.extBut _ _ q (Heap.get?_push_of_some _ e))
  have T8 : IsPair g8 g5.objs.size x y := c8.extBut _ _ (Nat.ne_of_gt hzlt) (c7.extBut _ _ (Nat.ne_of_gt hzlt) (Heap.get?_push_size _ rfl))
  have s8 : g8.objs.size = g5.objs.size + 1 := by rw [c8.1, c7.1, Heap.size_push]
  rw [hsz] at z8 T8 s8
  refine wpAny_pure ⟨_, rfl, wpAny_pure ?_⟩
  show Q (some (.ref g5.objs.size)) _
  rw [hsz]
  exact hQ g8 z8 (up _ _ D.TOz o5) (m1.at fun o e => up _ o D.i1z e) (m2.at fun o e => up _ o D.i2z e) T8 s8 fun c o q1 q2 q3 q4 e => up c o q1 (k5 c o q1 q2 q3 q4 e)
theorem zm_end {Q : Option Value → Shared → Prop} (hh : A.handled = none) (D : ZipApart z TI TO i1 i2 l1 l2) (Z : ZM s.heap z TI TO i1 i2 l1 l2 k1 k2) (hl1 : s.heap.IsList l1 xs) (hl2 : s.heap.IsTuple l2 ys) (hend : xs[k1]? = none ∨ ys[k2]? = none)
    (hQ : ∀ h', (∀ c o, c ≠ z → c ≠ TO → c ≠ i1 → c ≠ i2 → s.heap.get? c = some o → h'.get? c = some o) → Q none { s with heap := h' }) : wpAny (model prog w) A (pyNext (.ref z)) Q E s := by
  obtain ⟨hz, hTI, ⟨a, b, hTO⟩, h1, h2⟩ := Z
  have hT : s.TypeIs (.ref z) "zip" := ⟨_, hz, rfl⟩
  unfold pyNext
  refine wpAny_bind (wpAny_attempt (wpAny_callSpecial?_slot (name := Str.ofString "__next__") hT F.slot_zip_next (wpAny_call_entry F.slot_zip_next hT F.entry_zip_next
    (wpAny_mono (Q := fun _ _ => False) (E := fun e s' => ∃ (h' : Heap) (b : Addr), e = .ref b ∧ s' = { s with heap := h' } ∧ (∀ c o, c ≠ z → c ≠ TO → c ≠ i1 → c ≠ i2 → s.heap.get? c = some o → h'.get? c = some o) ∧ ∃ o, h'.get? b = some o ∧ o.cls = .type "StopIteration") ?_
      (fun _ _ z => z.elim) (fun e s' he => ?_)) (F.args_zip_next_1 _))))
  · show wpAny _ _ (field (.ref z) 2 >>= _) _ _ _
    refine wpAny_bind (wpAny_field hz rfl (x := .bool false) rfl ?_)
    show wpAny _ _ (field (.ref z) 3 >>= _) _ _ _
    refine wpAny_bind (wpAny_field hz rfl (x := .ref TI) rfl ?_)
    refine wpAny_bind (wpAny_seqItems hTI rfl ?_)
    show wpAny _ _ (Builtin.SmallTypes.ownedTupleIsFree (.ref z) >>= _) _ _ _
    refine wpAny_bind ?_
    unfold Builtin.SmallTypes.ownedTupleIsFree
    refine wpAny_bind (wpAny_field hz rfl (x := .none) rfl (wpAny_pure ?_))
    simp only [if_true]
    refine wpAny_bind (wpAny_rule ?_)
    refine wpAny_bind (wpAny_field hz rfl (x := .ref TO) rfl ?_)
    refine wpAny_bind (wpAny_setField_rec hz (by simp) fun g1 z1 c1 => ?_)
    replace z1 : IsZip g1 z TI TO .ellipsis := z1
    refine wpAny_bind ?_
    simp only [List.zipIdx_cons, List.zipIdx_nil, List.forIn_cons, List.forIn_nil]
    refine wpAny_bind (wpAny_bind (wpAny_onRaise ?_))
    show wpAny _ _ (Builtin.SmallTypes.nextOf (.ref i1) >>= _) _ _ _
    cases hx : xs[k1]? with
    | none =>
      refine wpAny_bind (wpAny_nextOf_list_end hh (h1.at fun o e => c1.extBut _ _ D.i1z e) (hl1.at fun o e => c1.extBut _ _ D.l1z e) hx fun g2 e c2 he => ?_)
      obtain ⟨oe, hoe, hce⟩ := he
      have z2 : IsZip g2 z TI TO .ellipsis := c2 _ _ D.i1z.symm z1
      have hez : e ≠ z := fun x => by
        subst x
        rw [z2] at hoe
        cases hoe
        simp at hce
      exact wpAny_setField_rec z2 (by simp) fun g3 _ c3 => ⟨g3, e, rfl, rfl, fun c o q1 _ q3 _ x => c3.extBut _ _ q1 (c2 _ _ q3 (c1.extBut _ _ q1 x)), oe, c3.extBut _ _ hez hoe, hce⟩
    | some x =>
      have hy : ys[k2]? = none := by
        rcases hend with h | h
        · rw [hx] at h
          cases h
        · exact h
      refine wpAny_bind (wpAny_nextOf_list_item (h1.at fun o e => c1.extBut _ _ D.i1z e) (hl1.at fun o e => c1.extBut _ _ D.l1z e) hx fun g2 n1 c2 => wpAny_pure ?_)
      have o2 : IsPair g2 TO a b := c2.extBut _ _ D.TOi1 (c1.extBut _ _ D.TOz hTO)
      refine wpAny_bind (wpAny_seqItems o2 rfl ?_)
      refine wpAny_bind (wpAny_updateSeq_pair o2 fun g3 o3 c3 => ?_)
      refine wpAny_bind (wpAny_letGo (wpAny_pure ?_))
      refine wpAny_bind (wpAny_bind (wpAny_onRaise ?_))
      show wpAny _ _ (Builtin.SmallTypes.nextOf (.ref i2) >>= _) _ _ _
      refine wpAny_bind (nextOf_tuple_end hh (h2.at fun o e => c3.extBut _ _ D.TOi2.symm (c2.extBut _ _ D.i12.symm (c1.extBut _ _ D.i2z e))) (hl2.at fun o e => c3.extBut _ _ D.l2TO (c2.extBut _ _ D.l2i1 (c1.extBut _ _ D.l2z e))) hy fun g4 e c4 he => ?_)
      obtain ⟨oe, hoe, hce⟩ := he
      have z4 : IsZip g4 z TI TO .ellipsis := c4 _ _ D.i2z.symm (c3.extBut _ _ D.TOz.symm (c2.extBut _ _ D.i1z.symm z1))
      have hez : e ≠ z := fun x => by
        subst x
        rw [z4] at hoe
        cases hoe
        simp at hce
      exact wpAny_setField_rec z4 (by simp) fun g5 _ c5 => ⟨g5, e, rfl, rfl, fun c o q1 q2 q3 q4 x => c5.extBut _ _ q1 (c4 _ _ q4 (c3.extBut _ _ q2 (c2.extBut _ _ q3 (c1.extBut _ _ q1 x)))), oe, c5.extBut _ _ hez hoe, hce⟩
  · obtain ⟨h', e', rfl, rfl, hk, o, ho, hc⟩ := he
    refine wpAny_bind (wpAny_isInstance (T := "StopIteration") (b := true) ⟨o, ho, hc⟩ isSubtype_stop ?_)
    exact wpAny_pure (hQ _ hk)
abbrev zm1 (h : Heap) (l1 : Addr) : Heap := h.push { cls := .type "list_iterator", data := .fields #[.ref l1, .int 0 0] }
abbrev zm2 (h : Heap) (l1 l2 : Addr) : Heap := (zm1 h l1).push { cls := .type "tuple_iterator", data := .fields #[.ref l2, .int 0 0] }
abbrev zm3 (h : Heap) (l1 l2 : Addr) : Heap := (zm2 h l1 l2).push { cls := .type "tuple", data := .seq #[.ref h.objs.size, .ref (zm1 h l1).objs.size] }
abbrev zm4 (h : Heap) (l1 l2 : Addr) : Heap := (zm3 h l1 l2).push { cls := .type "tuple", data := .seq #[.none, .none] }
abbrev zm5 (h : Heap) (l1 l2 : Addr) : Heap := (zm4 h l1 l2).push { cls := .type "zip", data := .fields #[.none, .bool false, .bool false, .ref (zm2 h l1 l2).objs.size, .ref (zm3 h l1 l2).objs.size] }
end
theorem meets_zm (l1 l2 : Addr) (xs ys : Array Value) :
    Meets (Builtin.«zip.__new__» ⟨[.type "zip", .ref l1, .ref l2], []⟩) (fun _ R s => s.heap.IsList l1 xs ∧ s.heap.IsTuple l2 ys ∧ R (.ok (.ret (.ref (zm4 s.heap l1 l2).objs.size))) { s with heap := zm5 s.heap l1 l2 }) :=
  .of_wp fun prog w A R s h => by
    obtain ⟨hp, g, d, tk, os⟩ := s
    obtain ⟨hl1, hl2, h⟩ := h
    have hsub := sub_zip
    have hL1 : Heap.IsList (Shared.heap ⟨hp, g, d, tk, os⟩) l1 xs := hl1
    have hL2 : Heap.IsTuple (Shared.heap ⟨hp.push { cls := .type "list_iterator", data := .fields #[.ref l1, .int 0 0] }, g, d, tk, os⟩) l2 ys := Heap.IsTuple.push hl2 _
    wp_walk using wpAny_pyIter_list hL1, wpAny_pyIter_tuple hL2
    exact ⟨_, rfl, h⟩
section
variable {prog : Program} {w : World} {A : Around} {E : Value → Shared → Prop} {s : Shared}
theorem call_zm {l1 l2 : Addr} {xs ys : Array Value} {Q : Value → Shared → Prop} (hl1 : s.heap.IsList l1 xs) (hl2 : s.heap.IsTuple l2 ys)
    (h : ∀ h', ZM h' (s.heap.objs.size + 4) (s.heap.objs.size + 2) (s.heap.objs.size + 3) s.heap.objs.size (s.heap.objs.size + 1) l1 l2 0 0 → (∀ c o, s.heap.get? c = some o → h'.get? c = some o) → Q (.ref (s.heap.objs.size + 4)) { s with heap := h' }) :
    wpAny (model prog w) A (call (.type "zip") [.ref l1, .ref l2]) Q E s := by
  refine callType_new F.called_zip (by decide) (F.typeCall_zip_2 _ _) (F.newCall_zip_2 _ _) (fun obj => F.args_object_init_3 obj _ _) F.entry_zip_new (meets_zm l1 l2 xs ys) ⟨hl1, hl2, ?_⟩
  have z1 : (zm1 s.heap l1).objs.size = s.heap.objs.size + 1 := Heap.size_push ..
  have z2 : (zm2 s.heap l1 l2).objs.size = s.heap.objs.size + 2 := by rw [Heap.size_push, z1]
  have z3 : (zm3 s.heap l1 l2).objs.size = s.heap.objs.size + 3 := by rw [Heap.size_push, z2]
  have z4 : (zm4 s.heap l1 l2).objs.size = s.heap.objs.size + 4 := by rw [Heap.size_push, z3]
  have p1 : ∀ {h : Heap} {c : Addr} {o o' : Obj}, h.get? c = some o → (h.push o').get? c = some o := fun e => Heap.get?_push_of_some _ e
  have g5 : (zm5 s.heap l1 l2).get? (zm4 s.heap l1 l2).objs.size = some _ := Heap.get?_push_size _ rfl
  have g4 : (zm5 s.heap l1 l2).get? (zm3 s.heap l1 l2).objs.size = some _ := p1 (Heap.get?_push_size _ rfl)
  have g3 : (zm5 s.heap l1 l2).get? (zm2 s.heap l1 l2).objs.size = some _ := p1 (p1 (Heap.get?_push_size _ rfl))
  have g2 : (zm5 s.heap l1 l2).get? (zm1 s.heap l1).objs.size = some _ := p1 (p1 (p1 (Heap.get?_push_size _ rfl)))
  have g1 : (zm5 s.heap l1 l2).get? s.heap.objs.size = some _ := p1 (p1 (p1 (p1 (Heap.get?_push_size _ rfl))))
  show _ ∧ _
  rw [z2, z3, z4] at g5
  rw [z1, z2] at g3
  rw [z3] at g4
  rw [z1] at g2
  rw [z4]
  exact ⟨⟨_, g5, rfl⟩, h _ ⟨g5, g3, ⟨_, _, g4⟩, ⟨_, g1, rfl, rfl⟩, ⟨_, g2, rfl, rfl⟩⟩ fun c o x => p1 (p1 (p1 (p1 (p1 x))))⟩
end
/-- the list at a and the tuple at b as they stand at each turn -/
def ItzM (K : PySem.W.Frag) (a b : Addr) : L2.It :=
  ⟨fun i H => ∃ (xs ys : List V) (x y : V), SqL K H a xs ∧ SqT K H b ys ∧ xs[i]? = some x ∧ ys[i]? = some y,
    fun i H v H' => ∃ T x y, v = .ref T ∧ H T = none ∧ H' = upd H T (.tup [x, y]) ∧ (∀ xs, SqL K H a xs → xs[i]? = some x) ∧ ∀ ys, SqT K H b ys → ys[i]? = some y,
    fun i H => ∃ xs ys : List V, SqL K H a xs ∧ SqT K H b ys ∧ (xs.length ≤ i ∨ ys.length ≤ i)⟩
theorem zm_mem {c z TI TO i1 i2 : Addr} (h : c ∈ [z, TI, TO, i1, i2]) : c = z ∨ c = TI ∨ c = TO ∨ c = i1 ∨ c = i2 := by simpa using h
theorem turn_zm {P : Program} {w : World} {K : PySem.W.Frag} {elts : List Expr} {kk : Nat} {tpos : Pos} {a b z TI TO i1 i2 : Addr} (D : ZipApart z TI TO i1 i2 a b) :
    Turn P w K (.Tuple elts kk tpos) (ItzM K a b) [z, TI, TO, i1, i2] z (fun i h => ZM h z TI TO i1 i2 a b i i) where
  mem := by simp
  obj := fun i h st c hc => by
    obtain ⟨hz, hTI, ⟨x, y, hTO⟩, ⟨o1, e1, _, d1⟩, ⟨o2, e2, _, d2⟩⟩ := st
    rcases zm_mem hc with q | q | q | q | q
    · rw [q]
      exact ⟨_, hz, fun v q => nomatch q⟩
    · rw [q]
      exact ⟨_, hTI, fun v q => nomatch q⟩
    · rw [q]
      exact ⟨_, hTO, fun v q => nomatch q⟩
    · rw [q]
      exact ⟨o1, e1, fun v q => by rw [d1] at q; cases q⟩
    · rw [q]
      exact ⟨o2, e2, fun v q => by rw [d2] at q; cases q⟩
  keep := fun i h h' st k => by
    obtain ⟨hz, hTI, ⟨x, y, hTO⟩, h1, h2⟩ := st
    exact ⟨k z (by simp) _ hz, k TI (by simp) _ hTI, ⟨x, y, k TO (by simp) _ hTO⟩, h1.at fun o q => k i1 (by simp) o q, h2.at fun o q => k i2 (by simp) o q⟩
  item := by
    intro X hP hw hK hc i pins s σ H E I hf st hg
    subst hP hw hK
    obtain ⟨xs, ys, x, y, hqx, hqy, hx, hy⟩ := hg
    obtain ⟨its, rv, p, _⟩ := I.list hqx
    obtain ⟨its2, rv2, p2, _⟩ := I.tuple hqy
    obtain ⟨u, hu, ru⟩ := rv.get hx
    obtain ⟨u2, hu2, ru2⟩ := rv2.get hy
    have hzl : z < s.heap.objs.size := Heap.lt_size st.zip
    have hlt : ∀ c, c ∈ [z, TI, TO, i1, i2] → c < s.heap.objs.size := fun c hcm => by
      obtain ⟨hz, hTI, ⟨x, y, hTO⟩, ⟨_, e1, _⟩, ⟨_, e2, _⟩⟩ := st
      rcases zm_mem hcm with q | q | q | q | q <;> rw [q]
      · exact hzl
      · exact Heap.lt_size hTI
      · exact Heap.lt_size hTO
      · exact Heap.lt_size e1
      · exact Heap.lt_size e2
    refine zm_item D st p.isList p2 (x := u) (y := u2) (by simpa using hu) (by simpa using hu2) fun h' z' TO' h1' h2' hT hsz hk => ?_
    refine ⟨_, rfl, wpAny_letOwnedTupleGo_zip (s := { s with heap := h' }) z' fun h'' z'' sb => ?_⟩
    have hT2 : h''.get? s.heap.objs.size = some { cls := .type "tuple", data := .seq #[u, u2] } := (sb.2 _ (Nat.ne_of_gt hzl)).trans hT
    have hnew : ObjOk X.prog X.w (upd H s.heap.objs.size (.tup [x, y])) h'' s.heap.objs.size (.tup [x, y]) := ⟨by show 2 ≤ sizeLine; decide, [u, u2], .cons ru (.cons ru2 .nil), ⟨_, hT2, rfl, _, rfl⟩⟩
    have out : ∀ {c : Addr}, c ∉ [z, TI, TO, i1, i2] → c ≠ z ∧ c ≠ TI ∧ c ≠ TO ∧ c ≠ i1 ∧ c ≠ i2 := fun hb => ⟨fun q => hb (by simp [q]), fun q => hb (by simp [q]), fun q => hb (by simp [q]), fun q => hb (by simp [q]), fun q => hb (by simp [q])⟩
    have I1 : Inv X pins σ (upd H s.heap.objs.size (.tup [x, y])) { s with heap := h'' } :=
      I.turnedNew (t' := s.toks) (ch := [z, TI, TO, i1, i2]) (fun c o hb q => (sb.2 c (out hb).1).trans (hk c o (out hb).1 (out hb).2.2.1 (out hb).2.2.2.1 (out hb).2.2.2.2 q)) hf (Nat.le_refl _) hnew
    refine ⟨.ref s.heap.objs.size, _, I1, rfl, ⟨_, x, y, rfl, I.hok.fresh (Nat.le_refl _), rfl, fun l hl => by rw [I.list_inj hl hqx]; exact hx, fun l hl => by rw [I.tuple_inj hl hqy]; exact hy⟩,
      ⟨z'', (sb.2 _ D.TIz).trans (hk _ _ D.TIz D.TITO D.TIi1 D.TIi2 st.ins), ⟨u, u2, (sb.2 _ D.TOz).trans TO'⟩, h1'.at fun o q => (sb.2 _ D.i1z).trans q, h2'.at fun o q => (sb.2 _ D.i2z).trans q⟩, fun c hcm => ?_⟩
    rw [upd_ne (Nat.ne_of_lt (hlt c hcm))]
    exact (hf c hcm).1
  done := by
    intro X hP hw hK hc i pins s σ H E I hf st hg
    subst hP hw hK
    obtain ⟨xs, ys, hqx, hqy, hend⟩ := hg
    obtain ⟨its, rv, p, _⟩ := I.list hqx
    obtain ⟨its2, rv2, p2, _⟩ := I.tuple hqy
    have l1 := rv.length
    have l2 := rv2.length
    have he : its.toArray[i]? = none ∨ its2.toArray[i]? = none := by
      rcases hend with q | q
      · exact .inl (by simp; omega)
      · exact .inr (by simp; omega)
    exact zm_end (I.ok.hd hc) D st p.isList p2 he fun h' hk => ⟨rfl, I.turnedL (t' := s.toks) (ch := [z, TI, TO, i1, i2]) (fun c o hb q => hk c o (fun q' => hb (by simp [q'])) (fun q' => hb (by simp [q'])) (fun q' => hb (by simp [q'])) (fun q' => hb (by simp [q'])) q) hf⟩
  self := fun A i s Q E st h => wpAny_pyIter_zip st.zip h
/-- two lists, two tuples, a list and a tuple -/
def iZipM (K : PySem.W.Frag) (ta : TA) : TI := fun σ H R => ta σ H fun vs H1 => ∃ a b xs ys, vs = [.ref a, .ref b] ∧
  ((SqL K H1 a xs ∧ SqL K H1 b ys ∧ R (Itz K a b) H1) ∨ (SqT K H1 a xs ∧ SqT K H1 b ys ∧ R (ItzT K a b) H1) ∨ (SqL K H1 a xs ∧ SqT K H1 b ys ∧ R (ItzM K a b) H1))
theorem pi_zipM {X : Cx} {e e2 : Expr} {ta : TA} {p pos tpos : Pos} {elts : List Expr} {kk : Nat} (hg : Gl X "zip") (hm : X.mg "zip" = none) (ha : PA X [e, e2] ta)
    (hs : starEach [e, e2] X.env = (false, eval e X.env) :: starEach [e2] X.env := by rfl) (hpl : (backTo pos (starEach [e2] X.env)).any (·.1) = false := by rfl) :
    PI X (.Tuple elts kk tpos) (.Call (.Name "zip" p) [e, e2] [] pos) (iZipM X.K ta) := by
  refine ⟨fun pins s σ H R I h => ?_⟩
  refine Call_ (ld_blt I hg hm PyProof.Rows.boot_zip (PyProof.Rows.callWith_type1 (thn (ha.run pos pins s σ H _ I h) fun us s1 ⟨vs, H1, I1, r1, q1⟩ => ?_) hs hpl))
  obtain ⟨a, b, xs, ys, ex, q1⟩ := q1
  subst ex
  cases r1 with
  | cons r rr =>
    cases rr with
    | cons r' rr =>
      cases rr
      cases r
      cases r'
      have fresh5 : ∀ c, c ∈ [s1.heap.objs.size + 4, s1.heap.objs.size + 2, s1.heap.objs.size + 3, s1.heap.objs.size, s1.heap.objs.size + 1] → FpOk X pins H1 c := fun c hcm => by
        have hle : s1.heap.objs.size ≤ c := by
          rcases zm_mem hcm with z | z | z | z | z <;> rw [z] <;> omega
        exact I1.fpOk hle (I1.hok.fresh hle)
      have next : ∀ {h' : Heap}, (∀ c o, s1.heap.get? c = some o → h'.get? c = some o) → Inv X pins σ H1 { s1 with heap := h' } := fun hk => I1.kept (t' := s1.toks) hk
      rcases q1 with ⟨hqx, hqy, q⟩ | ⟨hqx, hqy, q⟩ | ⟨hqx, hqy, q⟩
      · obtain ⟨its, rv, p1, _⟩ := I1.list hqx
        obtain ⟨its2, rv2, p2, _⟩ := I1.list hqy
        exact call_zip_2 p1.isList p2.isList fun h' hz hTI hTO h1 h2 hsz hk => wpAny_pyIter_zip hz
          ⟨s1.heap.objs.size + 4, [s1.heap.objs.size + 4, s1.heap.objs.size + 2, s1.heap.objs.size + 3, s1.heap.objs.size, s1.heap.objs.size + 1], _, _, H1, rfl, next hk, turn_zip (PySem.W.ktu_apart s1.heap.objs.size a b p1.lt p2.lt), ⟨hz, hTI, ⟨_, _, hTO⟩, h1, h2⟩, fresh5, q⟩
      · obtain ⟨its, rv, p1, _⟩ := I1.tuple hqx
        obtain ⟨its2, rv2, p2, _⟩ := I1.tuple hqy
        obtain ⟨o1, ho1, _⟩ := id p1
        obtain ⟨o2, ho2, _⟩ := id p2
        exact call_zipT (show s1.heap.IsTuple a its.toArray from p1) (show s1.heap.IsTuple b its2.toArray from p2) fun h' hz hTI hTO h1 h2 hsz hk => wpAny_pyIter_zip hz
          ⟨s1.heap.objs.size + 4, [s1.heap.objs.size + 4, s1.heap.objs.size + 2, s1.heap.objs.size + 3, s1.heap.objs.size, s1.heap.objs.size + 1], _, _, H1, rfl, next hk, turn_zipT (PySem.W.ktu_apart s1.heap.objs.size a b (Heap.lt_size ho1) (Heap.lt_size ho2)), ⟨hz, hTI, ⟨_, _, hTO⟩, h1, h2⟩, fresh5, q⟩
      · obtain ⟨its, rv, p1, _⟩ := I1.list hqx
        obtain ⟨its2, rv2, p2, _⟩ := I1.tuple hqy
        obtain ⟨o2, ho2, _⟩ := id p2
        exact call_zm p1.isList (show s1.heap.IsTuple b its2.toArray from p2) fun h' Z hk => wpAny_pyIter_zip Z.zip
          ⟨s1.heap.objs.size + 4, [s1.heap.objs.size + 4, s1.heap.objs.size + 2, s1.heap.objs.size + 3, s1.heap.objs.size, s1.heap.objs.size + 1], _, _, H1, rfl, next hk, turn_zm (PySem.W.ktu_apart s1.heap.objs.size a b p1.lt (Heap.lt_size ho2)), Z, fresh5, q⟩
end Lh
set_option Elab.async false
set_option linter.all false
set_option maxRecDepth 100000
set_option maxHeartbeats 4000000
namespace Lh
open PySem PySem.Spec PyProof.Rows L2
/-- an error, by its class -/
def ExK (cls : Value) (a : Addr) : HO := .ext fun h => ∃ oe vs, h.get? a = some oe ∧ Zc cls none oe ∧ oe.data = .fields vs
theorem exK_ok {P : Program} {w : World} {H : Hp} {h : Heap} {a : Addr} {cls : Value} {oe : Obj} {vs : Array Value} (e : h.get? a = some oe) (z : Zc cls none oe) (d : oe.data = .fields vs) : ObjOk P w H h a (ExK cls a) :=
  ⟨⟨oe, vs, e, z, d⟩, ⟨oe, e⟩, fun _ _ ⟨o, v, q, r⟩ k => ⟨o, v, k o q, r⟩⟩
/-- what K says of the class of errors d, which is at D -/
structure XcF (K : PySem.W.Frag) (d : Str) (D : Addr) : Prop where
  ec : ExcC K D
  ve : PySem.W.kitOne K (.ref D) (.type "ValueError") = some true
  is : ∀ c C, c ∈ XN → PySem.W.nsIn K mainGlobals c = some (some (.ref C)) → PySem.W.kitOne K (.ref D) (.ref C) = some (excBelow d c)
  ex : ∀ c C, c ∈ XN → PySem.W.nsIn K mainGlobals c = some (some (.ref C)) → PySem.W.exmOne K (.ref D) (.ref C) = some (excBelow d c)
def XOk (K : PySem.W.Frag) (mg : Str → Option Value) : Prop := ∀ d ∈ XN, ∀ D, mg d = some (.ref D) → PySem.W.nsIn K mainGlobals d = some (some (.ref D)) ∧ XcF K d D
/-- isinstance(x, c), x an error that was kept -/
def rIsX (K : PySem.W.Frag) : List V → Hp → VK → Prop := fun xs H Q => ∃ (a D : Addr) (c : V) (u : Value) (b : Bool), xs = [.ref a, c] ∧ ClsV c u ∧ H a = some (ExK (.ref D) a) ∧ ExcC K D ∧ PySem.W.kitOne K (.ref D) u = some b ∧ Q (.bl b) H
section
variable {X : Cx}
theorem call_isx : CallR X (.builtin "isinstance") (rIsX X.K) := by
  intro pins s σ H xs us Q I r h
  obtain ⟨a, D, c, u, b, rfl, k, ha, C, e, q⟩ := h
  obtain ⟨u1, u2, rfl, r1, r2⟩ := vals2 r
  have e2 := k.eq r2
  subst e2
  cases r1
  obtain ⟨⟨oe, vs, hget, hz, hv⟩, _⟩ := I.hok a _ ha
  have J : PySem.W.InstAt s.heap a oe D none := by
    obtain ⟨oc, od, oda, osl⟩ := oe
    obtain ⟨h1, h2⟩ := hz
    dsimp only at h1 h2 hv
    subst h1 h2 hv
    exact ⟨hget, rfl, rfl, trivial⟩
  exact PySem.W.kia_one (PySem.W.handS_kitx_exc C.hg C.hk C.hs C.hd C.ha C.hn C.ht C.hm) I.kIn J e (fun z => nomatch z) fun tk => ⟨.bl b, H, I.tok tk, rfl, q⟩
/-- list.count, flat items -/
def rCount (K : PySem.W.Frag) : V → List V → Hp → VK → Prop := fun x xs H Q => ∃ (a : Addr) (ys : List V) (y : V), x = V.ref a ∧ xs = [y] ∧ SqL K H a ys ∧ flatV y = true ∧ ys.all flatV = true ∧ Q (.int (ys.countP fun z => eqV z y : Nat)) H
theorem count_eqU {y : V} : ∀ {ys : List V} {its : List Value}, Vals ys its → ys.all flatV = true → its.countP (eqU y) = ys.countP fun z => eqV z y
  | _, _, .nil, _ => rfl
  | _, _, .cons r t, h => by
    rw [List.all_cons, Bool.and_eq_true] at h
    have ih := count_eqU (y := y) t h.2
    rw [List.countP_cons, List.countP_cons, ih, eqU_of r h.1]
theorem mt_count : MtR X "list.count" (rCount X.K) := by
  intro pins s σ H x xs v us Q I rx rxs h
  obtain ⟨a, ys, y, rfl, rfl, hs, fy, fys, q⟩ := h
  cases rx
  obtain ⟨uy, rfl, ry⟩ := rxs.one
  obtain ⟨its, rv, ⟨⟨cls, dd, data, sl⟩, n, ho, hc, hdn, hd⟩, hlen⟩ := I.list hs
  simp only at hc hd
  subst hc hd
  refine call_meets PySem.F.slot_list_count ⟨_, ho, rfl⟩ PySem.F.entry_list_count (PySem.F.args_list_count_2 _ _)
    (SeqAt.list_countAt a its.toArray n dd sl uy (eqU y)) ⟨ho, fun u' hu' => mem_eqAt ry fy rv fys u' (by simpa using hu'), ?_⟩
  have ec : its.toArray.toList.countP (eqU y) = ys.countP fun z => eqV z y := count_eqU rv fys
  refine ⟨.int (ys.countP fun z => eqV z y : Nat), H, I.tok _, ⟨s.toks, ?_⟩, q⟩
  show Value.int ((its.toArray.toList.countP (eqU y) : Nat) : Int) s.toks = _
  rw [ec]
end
end Lh
set_option Elab.async false
set_option linter.all false
set_option maxRecDepth 100000
set_option maxHeartbeats 2000000
namespace Lh
open L2 (ixN)
open HT (sIx)
open PySem L2
/-- the class whose objects are changed -/
def C0 (K : PySem.W.Frag) : Addr := He.ga K "Keeper"
def keyV : Key → Val
  | .inl i => .int i
  | .inr s => .str s
/-- a list that never changes: locked, or written -/
def FrzL (K : PySem.W.Frag) (H : Hp) (a : Addr) (xs : List V) : Prop :=
  (∃ o, H a = some (.frz o (.lst xs))) ∨
    ∃ (o : Obj) (its : Array Value) (n : Nat), K.lookup a = some o ∧ o.cls = .type "list" ∧ o.dict = none ∧ o.data = .seq its n ∧ its.size ≤ sizeLine ∧ Vals xs its.toList
theorem FrzL.sq {K : PySem.W.Frag} {H : Hp} {a : Addr} {xs : List V} (h : FrzL K H a xs) : SqL K H a xs := by
  rcases h with ⟨o, h⟩ | h
  · exact .inl (.inr ⟨o, h⟩)
  · exact .inr h
mutual
inductive Rep (K : PySem.W.Frag) (N : Addr → Prop) (H : Hp) : V → Val → Prop where
  | non : Rep K N H .non .non
  | bool (b : Bool) : Rep K N H (.bl b) (.bool b)
  | int (i : Int) : Rep K N H (.int i) (.int i)
  | str (s : Str) : Rep K N H (.str s) (.str s)
  | tup {a : Addr} {xs : List V} {ws : List Val} (h : H a = some (.tup xs)) (hl : ws.length ≤ cap) (r : Reps K N H xs ws) : Rep K N H (.ref a) (.tup ws)
  | lst {a : Addr} {xs : List V} {ws : List Val} (n : N a) (h : H a = some (.lst xs)) (hl : ws.length ≤ cap) (r : Reps K N H xs ws) : Rep K N H (.ref a) (.lst ws)
  | scr {a : Addr} {xs : List V} {ws : List Val} (h : FrzL K H a xs) (hl : ws.length ≤ cap) (r : Reps K N H xs ws) : Rep K N H (.ref a) (.scr ws)
  | dK {a : Addr} {kvs : List (Key × V)} {ks ws : List Val} (n : N a) (h : H a = some (.dK kvs)) (hk : ks = kvs.map fun p => keyV p.1) (hl : ws.length ≤ cap) (r : Reps K N H (kvs.map (·.2)) ws) : Rep K N H (.ref a) (.dct true ks ws)
  | dT {a : Addr} {kvs : List (List Key × V)} {ks ws : List Val} (n : N a) (h : H a = some (.dT kvs)) (hk : (∀ p ∈ kvs, p.1.length ≤ cap) ∧ ks = kvs.map fun p => .tup (p.1.map keyV)) (hl : ws.length ≤ cap) (r : Reps K N H (kvs.map (·.2)) ws) : Rep K N H (.ref a) (.dct false ks ws)
  | exc {a C : Addr} {c : Str} (h : H a = some (ExK (.ref C) a)) (f : XcF K c C) (m : c ∈ XN) : Rep K N H (.ref a) (.exc c)
  | obj {a dx : Addr} {fl : List (Str × V)} {nm : List Str} {ws : List Val} (n : N a) (h : H a = some (.ins (C0 K) dx fl)) (hm : nm = fl.map (·.1)) (hp : Val.pures ws = true) (r : Reps K N H (fl.map (·.2)) ws) : Rep K N H (.ref a) (.obj nm ws)
inductive Reps (K : PySem.W.Frag) (N : Addr → Prop) (H : Hp) : List V → List Val → Prop where
  | nil : Reps K N H [] []
  | cons {v : V} {vs : List V} {w : Val} {ws : List Val} (h : Rep K N H v w) (t : Reps K N H vs ws) : Reps K N H (v :: vs) (w :: ws)
end
/-- what no def of ours changes: tuples, what is locked -/
def sturdy : HO → Prop
  | .tup _ => True
  | .frz _ _ => True
  | .ext _ => True
  | _ => False
/-- what N marks, and all tuples, stand as they were -/
def Keep (N : Addr → Prop) (H H' : Hp) : Prop := ∀ a o, H a = some o → (N a ∨ sturdy o) → H' a = some o
theorem Keep.refl (N : Addr → Prop) (H : Hp) : Keep N H H := fun _ _ h _ => h
theorem Keep.trans {N : Addr → Prop} {H H1 H2 : Hp} (a : Keep N H H1) (b : Keep N H1 H2) : Keep N H H2 := fun x o h n => b x o (a x o h n) n
theorem Keep.of {N : Addr → Prop} {H H' : Hp} (h : Same H H') : Keep N H H' := fun a o e _ => h a o e
section
variable {K : PySem.W.Frag} {N N' : Addr → Prop} {H H' : Hp}
theorem FrzL.keep {a : Addr} {xs : List V} (k : Keep N H H') (h : FrzL K H a xs) : FrzL K H' a xs := by
  rcases h with ⟨o, h⟩ | h
  · exact .inl ⟨o, k a _ h (.inr trivial)⟩
  · exact .inr h
mutual
theorem Rep.keep {v : V} {w : Val} (hn : ∀ a, N a → H a ≠ none → N' a) (k : Keep N' H H') (r : Rep K N H v w) : Rep K N' H' v w := by
  cases r with
  | non => exact .non
  | bool b => exact .bool b
  | int i => exact .int i
  | str s => exact .str s
  | tup h hl r => exact .tup (k _ _ h (.inr trivial)) hl (Reps.keep hn k r)
  | lst n h hl r => exact .lst (hn _ n (by rw [h]; exact fun z => nomatch z)) (k _ _ h (.inl (hn _ n (by rw [h]; exact fun z => nomatch z)))) hl (Reps.keep hn k r)
  | scr h hl r => exact .scr (h.keep k) hl (Reps.keep hn k r)
  | dK n h hk hl r => exact .dK (hn _ n (by rw [h]; exact fun z => nomatch z)) (k _ _ h (.inl (hn _ n (by rw [h]; exact fun z => nomatch z)))) hk hl (Reps.keep hn k r)
  | dT n h hk hl r => exact .dT (hn _ n (by rw [h]; exact fun z => nomatch z)) (k _ _ h (.inl (hn _ n (by rw [h]; exact fun z => nomatch z)))) hk hl (Reps.keep hn k r)
  | exc h f m => exact .exc (k _ _ h (.inr trivial)) f m
  | obj n h hm hp r => exact .obj (hn _ n (by rw [h]; exact fun z => nomatch z)) (k _ _ h (.inl (hn _ n (by rw [h]; exact fun z => nomatch z)))) hm hp (Reps.keep hn k r)
theorem Reps.keep {vs : List V} {ws : List Val} (hn : ∀ a, N a → H a ≠ none → N' a) (k : Keep N' H H') (r : Reps K N H vs ws) : Reps K N' H' vs ws := by
  cases r with
  | nil => exact .nil
  | cons h t => exact .cons (Rep.keep hn k h) (Reps.keep hn k t)
end
theorem Rep.same {v : V} {w : Val} (e : Same H H') (r : Rep K N H v w) : Rep K N H' v w := r.keep (fun _ n _ => n) (.of e)
theorem Reps.same {v : List V} {w : List Val} (e : Same H H') (r : Reps K N H v w) : Reps K N H' v w := r.keep (fun _ n _ => n) (.of e)
theorem Rep.more {v : V} {w : Val} (hn : ∀ a, N a → N' a) (r : Rep K N H v w) : Rep K N' H v w := r.keep (fun a n _ => hn a n) (.refl _ _)
theorem Reps.more {v : List V} {w : List Val} (hn : ∀ a, N a → N' a) (r : Reps K N H v w) : Reps K N' H v w := r.keep (fun a n _ => hn a n) (.refl _ _)
theorem Reps.length : ∀ {vs : List V} {ws : List Val}, Reps K N H vs ws → vs.length = ws.length
  | _, _, .nil => rfl
  | _, _, .cons _ t => congrArg (· + 1) (Reps.length t)
theorem Reps.get : ∀ {vs : List V} {ws : List Val} {i : Nat} {w : Val}, Reps K N H vs ws → ws[i]? = some w → ∃ v, vs[i]? = some v ∧ Rep K N H v w
  | _, _, _, _, .nil, h => by simp at h
  | _, _, 0, _, .cons r _, h => by
    simp at h
    subst h
    exact ⟨_, rfl, r⟩
  | _, _, i + 1, _, .cons _ t, h => by
    obtain ⟨v, a, b⟩ := Reps.get (i := i) t (by simpa using h)
    exact ⟨v, by simpa using a, b⟩
theorem Reps.getV : ∀ {vs : List V} {ws : List Val} {i : Nat} {v : V}, Reps K N H vs ws → vs[i]? = some v → ∃ w, ws[i]? = some w ∧ Rep K N H v w
  | _, _, _, _, .nil, h => by simp at h
  | _, _, 0, _, .cons r _, h => by
    simp at h
    subst h
    exact ⟨_, rfl, r⟩
  | _, _, i + 1, _, .cons _ t, h => by
    obtain ⟨v, a, b⟩ := Reps.getV (i := i) t (by simpa using h)
    exact ⟨v, by simpa using a, b⟩
theorem Reps.append : ∀ {vs vs' : List V} {ws ws' : List Val}, Reps K N H vs ws → Reps K N H vs' ws' → Reps K N H (vs ++ vs') (ws ++ ws')
  | _, _, _, _, .nil, t => t
  | _, _, _, _, .cons r s, t => .cons r (Reps.append s t)
theorem Reps.take : ∀ {vs : List V} {ws : List Val} (n : Nat), Reps K N H vs ws → Reps K N H (vs.take n) (ws.take n)
  | _, _, 0, _ => .nil
  | _, _, _ + 1, .nil => .nil
  | _, _, n + 1, .cons r t => .cons r (Reps.take n t)
theorem Reps.drop : ∀ {vs : List V} {ws : List Val} (n : Nat), Reps K N H vs ws → Reps K N H (vs.drop n) (ws.drop n)
  | _, _, 0, r => r
  | _, _, _ + 1, .nil => .nil
  | _, _, n + 1, .cons r t => Reps.drop n t
theorem Reps.reverse : ∀ {vs : List V} {ws : List Val}, Reps K N H vs ws → Reps K N H vs.reverse ws.reverse
  | _, _, .nil => .nil
  | _, _, .cons r t => by
    rw [List.reverse_cons, List.reverse_cons]
    exact (Reps.reverse t).append (.cons r .nil)
theorem Reps.set : ∀ {vs : List V} {ws : List Val} {x : V} {y : Val} (i : Nat), Reps K N H vs ws → Rep K N H x y → Reps K N H (vs.set i x) (ws.set i y)
  | _, _, _, _, _, .nil, _ => .nil
  | _, _, _, _, 0, .cons _ t, r => .cons r t
  | _, _, _, _, i + 1, .cons q t, r => .cons q (Reps.set i t r)
theorem Reps.eraseIdx : ∀ {vs : List V} {ws : List Val} (i : Nat), Reps K N H vs ws → Reps K N H (vs.eraseIdx i) (ws.eraseIdx i)
  | _, _, _, .nil => .nil
  | _, _, 0, .cons _ t => t
  | _, _, i + 1, .cons q t => .cons q (Reps.eraseIdx i t)
theorem Reps.dropLast {vs : List V} {ws : List Val} (r : Reps K N H vs ws) : Reps K N H vs.dropLast ws.dropLast := by
  rw [List.dropLast_eq_take, List.dropLast_eq_take, r.length]
  exact r.take _
theorem Reps.flatRep {vs : List V} {ws : List Val} (r : Reps K N H vs ws) : ∀ n : Nat, Reps K N H (List.replicate n vs).flatten (List.replicate n ws).flatten
  | 0 => .nil
  | n + 1 => by
    rw [List.replicate_succ, List.replicate_succ, List.flatten_cons, List.flatten_cons]
    exact r.append (Reps.flatRep r n)
theorem sIx_eq : ∀ (n d : Nat) (o : Option Int), HT.sIx n d o = sIx n d o
  | _, _, none => rfl
  | _, _, some _ => rfl
theorem ixN_eq (n : Nat) (i : Int) : L2.ixN n i = ixN n i := rfl
theorem Reps.cutR {vs : List V} {ws : List Val} (r : Reps K N H vs ws) (lo hi : Option Int) : Reps K N H (cutV vs lo hi) (Lh.cut ws lo hi) := by
  unfold cutV Lh.cut
  rw [sIx_eq, sIx_eq, r.length]
  exact (r.drop _).take _
theorem cut_length {α : Type} (ws : List α) (lo hi : Option Int) : (cut ws lo hi).length ≤ ws.length := by
  unfold cut
  rw [List.length_take, List.length_drop]
  omega
theorem Reps.atIR {vs : List V} {ws : List Val} {i : Int} {w : Val} (r : Reps K N H vs ws) (h : L2.atI ws i = some w) : ∃ v, L2.atI vs i = some v ∧ Rep K N H v w := by
  unfold L2.atI at h
  cases e : ixN ws.length i with
  | none =>
    rw [e] at h
    cases h
  | some j =>
    rw [e] at h
    obtain ⟨v, a, b⟩ := r.get (show ws[j]? = some w from h)
    refine ⟨v, ?_, b⟩
    unfold L2.atI
    rw [r.length, ixN_eq, e]
    exact a
end
mutual
/-- a value without lists stands wherever the tuples stand -/
theorem Rep.ofPure {K : PySem.W.Frag} {N N' : Addr → Prop} {H : Hp} {v : V} {w : Val} (r : Rep K N H v w) (h : w.pure = true) : Rep K N' H v w := by
  cases r with
  | non => exact .non
  | bool b => exact .bool b
  | int i => exact .int i
  | str s => exact .str s
  | tup h1 hl r => exact .tup h1 hl (Reps.ofPure r h)
  | lst n h1 hl r => exact nomatch h
  | scr h1 hl r => exact nomatch h
  | dK n h1 hk hl r => exact nomatch h
  | dT n h1 hk hl r => exact nomatch h
  | exc h1 f m => exact nomatch h
  | obj n h1 hm hp r => exact nomatch h
theorem Reps.ofPure {K : PySem.W.Frag} {N N' : Addr → Prop} {H : Hp} {v : List V} {w : List Val} (r : Reps K N H v w) (h : Val.pures w = true) : Reps K N' H v w := by
  cases r with
  | nil => exact .nil
  | cons a t =>
    rw [Val.pures, Bool.and_eq_true] at h
    exact .cons (Rep.ofPure a h.1) (Reps.ofPure t h.2)
end
theorem pures_of_all : ∀ {ws : List Val}, ws.all Val.pure = true → Val.pures ws = true
  | [], _ => rfl
  | w :: r, h => by
    rw [List.all_cons, Bool.and_eq_true] at h
    rw [Val.pures, h.1, pures_of_all h.2]
    rfl
/-- what is not tracked is marked -/
def Fr (H : Hp) (N : Addr → Prop) : Prop := ∀ a, H a = none → N a
theorem Fr.same {H H' : Hp} {N : Addr → Prop} (f : Fr H N) (e : Same H H') : Fr H' N := fun a h => f a (e.free h)
theorem same_upd {H : Hp} {p : Addr} {o : HO} (h : H p = none) : Same H (upd H p o) := fun b x e => by
  rw [upd_ne (ne_of_none e h)]
  exact e
/-- a list that was not there, of items that stand without it -/
def NewL (K : PySem.W.Frag) (N : Addr → Prop) (H H' : Hp) (a : Addr) (ws : List Val) : Prop := H a = none ∧ ∃ xs, H' a = some (.lst xs) ∧ Reps K (fun b => N b ∧ b ≠ a) H' xs ws
theorem NewL.mk' {K : PySem.W.Frag} {N : Addr → Prop} {H : Hp} {p : Addr} {xs : List V} {ws : List Val} (hp : H p = none) (r : Reps K N H xs ws) : NewL K N H (upd H p (.lst xs)) p ws :=
  ⟨hp, xs, upd_same, r.keep (fun a n h => ⟨n, fun z => h (by rw [z]; exact hp)⟩) (.of (same_upd hp))⟩
theorem NewL.back {K : PySem.W.Frag} {N : Addr → Prop} {H H1 H' : Hp} {a : Addr} {ws : List Val} (n : NewL K N H1 H' a ws) (s : Same H H1) : NewL K N H H' a ws := ⟨s.free n.1, n.2⟩
theorem cap_line {n : Nat} (h : n ≤ cap) : n ≤ sizeLine := Nat.le_trans h (by decide)
theorem cap_lt {n : Nat} (h : n < cap) : n < sizeLine := Nat.lt_of_lt_of_le h (by decide)
end Lh
set_option Elab.async false
set_option linter.all false
set_option maxRecDepth 100000
set_option maxHeartbeats 4000000
namespace Lh
open PySem PySem.Spec PyProof.Rows L2
variable {K : PySem.W.Frag} {N : Addr → Prop} {H : Hp}
theorem strsOf_eq : ∀ {ws : List Val} {l : List Str}, strsOf ws = some l → ws = l.map .str
  | [], l, h => by
    cases h
    rfl
  | w :: r, l, h => by
    cases w with
    | str s =>
      have h : (strsOf r).map (s :: ·) = some l := h
      cases e : strsOf r with
      | none =>
        rw [e] at h
        exact nomatch h
      | some k =>
        rw [e] at h
        cases h
        rw [strsOf_eq e]
        rfl
    | _ => exact nomatch h
theorem Reps.strs : ∀ {ns : List Str} {xs : List V}, Reps K N H xs (ns.map .str) → xs = ns.map .str
  | [], _, r => by
    cases r
    rfl
  | n :: ns, _, r => by
    cases r with
    | cons h t =>
      cases h
      rw [Reps.strs t]
      rfl
theorem reps_strs : ∀ ns : List Str, Reps K N H (ns.map .str) (ns.map .str)
  | [] => .nil
  | n :: r => .cons (.str n) (reps_strs r)
theorem oneSign_eq {v : Val} {c : Nat} (h : oneSign v = some c) : v = .str ⟨#[c]⟩ := by
  cases v with
  | str s =>
    obtain ⟨⟨l⟩⟩ := s
    cases l with
    | nil => exact nomatch h
    | cons x r => cases r with
      | nil =>
        cases h
        rfl
      | cons _ _ => exact nomatch h
  | _ => exact nomatch h
theorem splitL_len (c : Nat) : ∀ l : List Nat, (splitL c l).length ≤ l.length + 1
  | [] => Nat.le_refl _
  | x :: r => by
    have ih := splitL_len c r
    unfold splitL
    split
    · rw [List.length_cons, List.length_cons]
      omega
    · split
      · rename_i y s e
        rw [e] at ih
        rw [List.length_cons] at ih ⊢
        rw [List.length_cons]
        omega
      · exact Nat.le_add_left _ _
/-- lists joined by a sign -/
def joinL (c : Nat) : List (List Nat) → List Nat
  | [] => []
  | [x] => x
  | x :: y :: r => x ++ c :: joinL c (y :: r)
theorem splitL_free {c : Nat} : ∀ {l : List Nat}, c ∉ l → splitL c l = [l]
  | [], _ => rfl
  | x :: r, h => by
    have h1 : x ≠ c := fun e => h (e ▸ List.mem_cons_self)
    have ih := splitL_free (l := r) fun e => h (List.mem_cons_of_mem _ e)
    unfold splitL
    rw [if_neg h1, ih]
theorem splitL_app {c : Nat} {t : List Nat} : ∀ {l : List Nat}, c ∉ l → splitL c (l ++ c :: t) = l :: splitL c t
  | [], _ => by
    show splitL c (c :: t) = _
    rw [splitL, if_pos rfl]
  | x :: r, h => by
    have h1 : x ≠ c := fun e => h (e ▸ List.mem_cons_self)
    have ih := splitL_app (t := t) (l := r) fun e => h (List.mem_cons_of_mem _ e)
    show splitL c (x :: (r ++ c :: t)) = _
    rw [splitL, if_neg h1, ih]
theorem split_join {c : Nat} : ∀ {ps : List (List Nat)}, ps ≠ [] → (∀ p, p ∈ ps → c ∉ p) → splitL c (joinL c ps) = ps
  | [], h, _ => absurd rfl h
  | [p], _, h => splitL_free (h p List.mem_cons_self)
  | p :: q :: r, _, h => by
    show splitL c (p ++ c :: joinL c (q :: r)) = _
    rw [splitL_app (h p List.mem_cons_self), split_join (ps := q :: r) (List.cons_ne_nil _ _) fun x hx => h x (List.mem_cons_of_mem _ hx)]
theorem join_str {c : Nat} : ∀ ps : List Str, (Str.join ⟨#[c]⟩ ps).cps.toList = joinL c (ps.map fun p => p.cps.toList)
  | [] => rfl
  | [p] => rfl
  | p :: q :: r => by
    have ih := join_str (c := c) (q :: r)
    show ((p.cps ++ #[c]) ++ (Str.join ⟨#[c]⟩ (q :: r)).cps).toList = p.cps.toList ++ c :: joinL c ((q :: r).map fun p => p.cps.toList)
    rw [Array.toList_append, Array.toList_append, ih, List.append_assoc]
    rfl
theorem str_list (ps : List Str) : (ps.map fun p => p.cps.toList).map (fun l => (⟨l.toArray⟩ : Str)) = ps := by
  rw [List.map_map]
  conv => rhs; rw [← List.map_id ps]
  refine List.map_congr_left fun p _ => ?_
  show (⟨p.cps.toList.toArray⟩ : Str) = p
  rw [Array.toArray_toList]
theorem split_eq {a : Str} {c : Nat} : Txt.split a ⟨#[c]⟩ = (splitL c a.cps.toList).map fun l => ⟨l.toArray⟩ := by
  have h1 := StrLaws.join_split a ⟨#[c]⟩
  have h2 := StrLaws.split_free a c
  have h3 := split_pos a ⟨#[c]⟩
  have h4 : (Txt.split a ⟨#[c]⟩).map (fun p => p.cps.toList) ≠ [] := fun e => by
    have := congrArg List.length e
    rw [List.length_map] at this
    have e0 : ([] : List (List Nat)).length = 0 := rfl
    omega
  have h5 : a.cps.toList = joinL c ((Txt.split a ⟨#[c]⟩).map fun p => p.cps.toList) := by
    rw [← join_str, h1]
  rw [h5, split_join h4 fun p hp => by
    obtain ⟨q, hq, rfl⟩ := List.mem_map.mp hp
    exact h2 q hq, str_list]
theorem join_same (a : Str) (l : List Str) : Txt.join a l = Str.join a l := eq_of_beq (join_plain_closes a l)
theorem log_small {n : Nat} (h : n < 2 ^ 64) : n.log2 < 1920 := by
  by_cases z : n = 0
  · subst z
    decide
  · exact Nat.lt_of_lt_of_le ((Nat.log2_lt z).mpr h) (by decide)
theorem fig_of {c : Nat} (h : isFig c = true) : 48 ≤ c ∧ c ≤ 57 := by
  unfold isFig at h
  rw [Bool.and_eq_true, decide_eq_true_eq, decide_eq_true_eq] at h
  exact h
theorem takeWhile_all {p : Nat → Bool} : ∀ {l : List Nat}, (∀ x, x ∈ l → p x = true) → l.takeWhile p = l
  | [], _ => rfl
  | x :: r, h => by
    rw [List.takeWhile_cons, h x List.mem_cons_self]
    show x :: r.takeWhile p = _
    rw [takeWhile_all fun y hy => h y (List.mem_cons_of_mem _ hy)]
theorem dropWhile_none {p : Nat → Bool} : ∀ {l : List Nat}, (∀ x, x ∈ l → p x = false) → l.dropWhile p = l
  | [], _ => rfl
  | x :: r, h => by
    rw [List.dropWhile_cons, h x List.mem_cons_self]
    rfl
theorem fold_fig : ∀ (l : List Nat) (ds : Array Nat) (b : Bool), (∀ x, x ∈ l → isFig x = true) → l.foldlM (NumText.step 10) (ds, b) = some (ds ++ (l.map fun c => c - 48).toArray, b || !l.isEmpty)
  | [], ds, b, _ => by
    show some (ds, b) = some (ds ++ #[], b || false)
    rw [Bool.or_false, Array.append_empty]
  | c :: r, ds, b, h => by
    obtain ⟨h1, h2⟩ := fig_of (h c List.mem_cons_self)
    have ih := fold_fig r (ds.push (c - 48)) true fun x hx => h x (List.mem_cons_of_mem _ hx)
    rw [List.foldlM_cons]
    have e1 : NumText.step 10 (ds, b) c = some (ds.push (c - 48), true) := by
      unfold NumText.step
      have e2 : (c == 95) = false := beq_eq_false_iff_ne.mpr (by omega)
      have e3 : NumText.digit? c = some (c - 48) := by
        unfold NumText.digit?
        rw [if_pos (by rw [Bool.and_eq_true, decide_eq_true_eq, decide_eq_true_eq]; exact ⟨h1, h2⟩)]
      rw [e2, e3]
      show (if c - 48 < 10 then some (ds.push (c - 48), true) else none) = _
      rw [if_pos (by omega)]
    rw [e1]
    show r.foldlM (NumText.step 10) (ds.push (c - 48), true) = _
    rw [ih]
    have e4 : ds.push (c - 48) ++ (r.map fun c => c - 48).toArray = ds ++ ((c :: r).map fun c => c - 48).toArray := by
      apply Array.toList_inj.mp
      rw [Array.toList_append, Array.toList_push, Array.toList_append, List.append_assoc]
      rfl
    rw [e4, Bool.true_or]
    show some (_, true) = some (_, b || true)
    rw [Bool.or_true]
theorem int_fig {z : Str} (h1 : 1 ≤ z.length) (h2 : z.length ≤ 18) (h3 : z.cps.toList.all isFig = true) : PySem.intText? z = some ((figN z.cps.toList : Nat) : Int) := by
  have hf : ∀ x, x ∈ z.cps.toList → isFig x = true := List.all_eq_true.mp h3
  have hl : z.cps.toList.length = z.length := Array.length_toList
  have e0 : z.cps.all (fun c => decide (c < 128)) = true := by
    rw [← Array.all_toList, List.all_eq_true]
    intro x hx
    have := (fig_of (hf x hx)).2
    exact decide_eq_true (by omega)
  have e1 : numTextOf z = z.cps.toList := if_pos e0
  have e2 : numSeenOf z = z.cps.toList := by
    unfold numSeenOf
    rw [e1]
    refine takeWhile_all fun x hx => ?_
    have := (fig_of (hf x hx)).1
    exact bne_iff_ne.mpr (by omega)
  have nb : ∀ x, x ∈ z.cps.toList → NumText.blank x = false := fun x hx => by
    have := (fig_of (hf x hx)).1
    unfold NumText.blank
    rw [Bool.or_eq_false_iff, Bool.and_eq_false_iff]
    exact ⟨beq_eq_false_iff_ne.mpr (by omega), .inr (decide_eq_false (by omega))⟩
  have e3 : z.cps.toList.dropWhile NumText.blank = z.cps.toList := dropWhile_none nb
  have e4 : NumText.sign z.cps.toList = (false, z.cps.toList) := by
    cases e : z.cps.toList with
    | nil => rfl
    | cons c r =>
      have := (fig_of (hf c (by rw [e]; exact List.mem_cons_self))).1
      unfold NumText.sign
      split
      · rename_i h
        cases h
        omega
      · rename_i h
        cases h
        omega
      · rfl
  have e5 : NumText.core z.cps.toList = z.cps.toList := by
    unfold NumText.core
    rw [e3, e4]
    show (z.cps.toList.reverse.dropWhile NumText.blank).reverse = _
    rw [dropWhile_none fun x hx => nb x (List.mem_reverse.mp hx), List.reverse_reverse]
  have ne : z.cps.toList.isEmpty = false := by
    cases e : z.cps.toList with
    | nil =>
      rw [e] at hl
      have : ([] : List Nat).length = 0 := rfl
      omega
    | cons _ _ => rfl
  have e6 : NumText.digits? 10 z.cps.toList = some (z.cps.toList.map fun c => c - 48).toArray := by
    unfold NumText.digits?
    rw [fold_fig _ _ _ hf, ne]
    show some (#[] ++ _) = _
    rw [Array.empty_append]
  unfold PySem.intText?
  rw [e2, e1, e5, e6]
  have e7 : (z.cps.toList.length == z.cps.toList.length) = true := beq_self_eq_true _
  rw [if_pos e7]
  show (if (z.cps.toList.map fun c => c - 48).toArray.size ≤ 4300 then some _ else none) = _
  have e8 : (z.cps.toList.map fun c => c - 48).toArray.size = z.length := by rw [List.size_toArray, List.length_map, hl]
  rw [if_pos (by omega), e3, e4]
  show some (((z.cps.toList.map fun c => c - 48).toArray.foldl (fun acc d => acc * 10 + d) 0 : Nat) : Int) = _
  congr 2
  rw [List.foldl_toArray, List.foldl_map]
  rfl
end Lh
set_option Elab.async false
set_option linter.all false
set_option maxRecDepth 100000
set_option maxHeartbeats 4000000
namespace Lh
open PySem L2
mutual
def toPD : Val → PyData
  | .non => .none
  | .bool b => .bool b
  | .int i => .int i
  | .str s => .str s
  | .tup xs => .tuple (toPDs xs)
  | .lst xs => .list (toPDs xs)
  | .scr xs => .list (toPDs xs)
  | .dct _ _ _ => .none
  | .exc _ => .none
  | .obj _ _ => .none
def toPDs : List Val → List PyData
  | [] => []
  | x :: xs => toPD x :: toPDs xs
end
mutual
theorem lay_can : ∀ (n : Nat) (w : Val), w.lay n = true → (toPD w).canLay0 = true
  | n, .non, _ => rfl
  | n, .bool b, _ => rfl
  | n, .int i, _ => rfl
  | n, .str s, h => by cases n <;> exact h
  | n + 1, .tup xs, h => lay_cans n xs h
  | n + 1, .lst xs, h => lay_cans n xs h
  | n + 1, .scr xs, h => lay_cans n xs h
  | 0, .tup xs, h => nomatch h
  | 0, .lst xs, h => nomatch h
  | 0, .scr xs, h => nomatch h
  | n, .dct k a b, h => by cases n <;> exact nomatch h
  | n, .exc c, h => by cases n <;> exact nomatch h
  | n, .obj c _, h => by cases n <;> exact nomatch h
theorem lay_cans : ∀ (n : Nat) (w : List Val), w.all (Val.lay n) = true → PyData.canLayAll0 (toPDs w) = true
  | n, [], _ => rfl
  | n, x :: xs, h => by
    rw [List.all_cons, Bool.and_eq_true] at h
    show (PyData.canLay0 (toPD x) && PyData.canLayAll0 (toPDs xs)) = true
    rw [lay_can n x h.1, lay_cans n xs h.2]
    rfl
end
mutual
theorem lay_depth : ∀ (n : Nat) (w : Val), w.lay n = true → (toPD w).depth ≤ n
  | n, .non, _ => Nat.zero_le _
  | n, .bool b, _ => Nat.zero_le _
  | n, .int i, _ => Nat.zero_le _
  | n, .str s, h => Nat.zero_le _
  | n + 1, .tup xs, h => Nat.succ_le_succ (lay_depths n xs h)
  | n + 1, .lst xs, h => Nat.succ_le_succ (lay_depths n xs h)
  | n + 1, .scr xs, h => Nat.succ_le_succ (lay_depths n xs h)
  | 0, .tup xs, h => nomatch h
  | 0, .lst xs, h => nomatch h
  | 0, .scr xs, h => nomatch h
  | n, .dct k a b, h => by cases n <;> exact nomatch h
  | n, .exc c, h => by cases n <;> exact nomatch h
  | n, .obj c _, h => by cases n <;> exact nomatch h
theorem lay_depths : ∀ (n : Nat) (w : List Val), w.all (Val.lay n) = true → PyData.depthAll (toPDs w) ≤ n
  | n, [], _ => Nat.zero_le _
  | n, x :: xs, h => by
    rw [List.all_cons, Bool.and_eq_true] at h
    exact Nat.max_le.mpr ⟨lay_depth n x h.1, lay_depths n xs h.2⟩
end
theorem lay_shaped {n : Nat} {w : Val} (hn : n ≤ 64) (h : w.lay n = true) : SeqAt.shaped (toPD w) = true := by
  unfold SeqAt.shaped
  rw [lay_can n w h, decide_eq_true (Nat.le_trans (lay_depth n w h) hn)]
  rfl
mutual
theorem eqv_pd : ∀ (n m : Nat) (a b : Val), a.lay n = true → b.lay m = true → PyData.eqv (toPD a) (toPD b) = a.eqv b := by
  intro n m a b ha hb
  cases a <;> cases b <;> first
    | rfl
    | (exfalso; cases n <;> simp [Val.lay] at ha; done)
    | (exfalso; cases m <;> simp [Val.lay] at hb; done)
    | (cases n with
       | zero => exact absurd ha (by simp [Val.lay])
       | succ n => cases m with
         | zero => exact absurd hb (by simp [Val.lay])
         | succ m => exact eqvs_pd n m _ _ ha hb)
theorem eqvs_pd : ∀ (n m : Nat) (a b : List Val), a.all (Val.lay n) = true → b.all (Val.lay m) = true → PyData.eqvAll (toPDs a) (toPDs b) = Val.eqvs a b
  | _, _, [], [], _, _ => rfl
  | _, _, [], _ :: _, _, _ => rfl
  | _, _, _ :: _, [], _, _ => rfl
  | n, m, x :: xs, y :: ys, ha, hb => by
    rw [List.all_cons, Bool.and_eq_true] at ha hb
    show (PyData.eqv (toPD x) (toPD y) && PyData.eqvAll (toPDs xs) (toPDs ys)) = (Val.eqv x y && Val.eqvs xs ys)
    rw [eqv_pd n m x y ha.1 hb.1, eqvs_pd n m xs ys ha.2 hb.2]
end
mutual
theorem Rep.dp {K : PySem.W.Frag} {N : Addr → Prop} {H : Hp} {v : V} {w : Val} (r : Rep K N H v w) {n : Nat} (h : w.lay n = true) : Dp K H v (toPD w) := by
  cases r with
  | non => exact .non
  | bool b => exact .bl b
  | int i => exact .int i
  | str s => exact .str s
  | tup h1 hl r =>
    cases n with
    | zero => exact nomatch h
    | succ n => exact .tup (SqT.of h1) (Reps.dp r h)
  | lst n1 h1 hl r =>
    cases n with
    | zero => exact nomatch h
    | succ n => exact .lst (SqL.of h1) (Reps.dp r h)
  | scr h1 hl r =>
    cases n with
    | zero => exact nomatch h
    | succ n => exact .lst h1.sq (Reps.dp r h)
  | dK n1 h1 hk hl r => cases n <;> exact nomatch h
  | dT n1 h1 hk hl r => cases n <;> exact nomatch h
  | exc h1 f m => cases n <;> exact nomatch h
  | obj n1 h1 hm hp r => cases n <;> exact nomatch h
theorem Reps.dp {K : PySem.W.Frag} {N : Addr → Prop} {H : Hp} {v : List V} {w : List Val} (r : Reps K N H v w) {n : Nat} (h : w.all (Val.lay n) = true) : DpAll K H v (toPDs w) := by
  cases r with
  | nil => exact .nil
  | cons a t =>
    rw [List.all_cons, Bool.and_eq_true] at h
    exact .cons (Rep.dp a h.1) (Reps.dp t h.2)
end
/-- the wish Q takes the value w, at any place, in any heap behind; a list is a new one -/
def Got (K : PySem.W.Frag) (N : Addr → Prop) (H : Hp) (w : Val) (Q : VK) : Prop :=
  ∀ z H', Same H H' → Rep K N H' z w → (∀ a ws, z = .ref a → w = .lst ws → NewL K N H H' a ws) → Q z H'
section
variable {K : PySem.W.Frag} {N : Addr → Prop} {H : Hp} {Q : VK}
theorem Got.int {i : Int} (g : Got K N H (.int i) Q) : Q (.int i) H := g _ _ (Same.refl H) (.int i) fun _ _ _ h => nomatch h
theorem Got.bool {i : Bool} (g : Got K N H (.bool i) Q) : Q (.bl i) H := g _ _ (Same.refl H) (.bool i) fun _ _ _ h => nomatch h
theorem Got.str {i : Str} (g : Got K N H (.str i) Q) : Q (.str i) H := g _ _ (Same.refl H) (.str i) fun _ _ _ h => nomatch h
theorem Got.non (g : Got K N H .non Q) : Q .non H := g _ _ (Same.refl H) .non fun _ _ _ h => nomatch h
/-- a new list -/
theorem Got.lst {ws : List Val} {xs : List V} (f : Fr H N) (g : Got K N H (.lst ws) Q) (hl : ws.length ≤ cap) (r : Reps K N H xs ws) : ∀ p, H p = none → Q (.ref p) (upd H p (.lst xs)) := fun p hp =>
  g _ _ (same_upd hp) (.lst (f p hp) upd_same hl (r.same (same_upd hp))) fun a _ e e2 => by
    cases e
    cases e2
    exact .mk' hp r
theorem Got.tup {ws : List Val} {xs : List V} (g : Got K N H (.tup ws) Q) (hl : ws.length ≤ cap) (r : Reps K N H xs ws) : ∀ p, H p = none → Q (.ref p) (upd H p (.tup xs)) := fun p hp =>
  g _ _ (same_upd hp) (.tup upd_same hl (r.same (same_upd hp))) fun a _ e h => nomatch h
/-- what stands already and is no list -/
theorem Got.old {z : V} {w : Val} (g : Got K N H w Q) (r : Rep K N H z w) (h : ∀ ws, w ≠ .lst ws) : Q z H := g _ _ (Same.refl H) r fun _ ws _ e => absurd e (h ws)
end
def kop : Bop → Operator
  | .add => .Add
  | .sub => .Sub
  | .mul => .Mult
  | .fdiv => .FloorDiv
  | .mod => .Mod
  | .pow => .Pow
def rBin (K : PySem.W.Frag) : Bop → R2
  | .add => fun x y H Q => rI0 (fun i j => .int (i + j)) x y H Q ∨ (rCatA K x y H Q ∨ (rCat x y H Q ∨ rAddS x y H Q))
  | .sub => rI0 fun i j => .int (i - j)
  | .mul => fun x y H Q => rI CMul (fun i j => .int (i * j)) x y H Q ∨ (rRepT K x y H Q ∨ (rRep1 K x y H Q ∨ (rRep0 K x y H Q ∨ rRep x y H Q)))
  | .fdiv => rI CDivN fun i j => .int (i.fdiv j)
  | .mod => rI (fun _ j => j ≠ 0) fun i j => .int (i.fmod j)
  | .pow => rI CPow fun i j => .int (i ^ j.toNat)
theorem opr_bin {X : Cx} : ∀ op, OpR X (binaryOp (kop op)) (rBin X.K op)
  | .add => OpR.or op_add (OpR.or op_catA (OpR.or op_cat op_add_str))
  | .sub => op_sub
  | .mul => OpR.or op_mul (OpR.or op_repT (OpR.or op_rep1 (OpR.or op_rep0 op_rep)))
  | .fdiv => op_fdivN
  | .mod => op_modN
  | .pow => op_pow
theorem len_rep_flat {α : Type} (a : List α) : ∀ n : Nat, (List.replicate n a).flatten.length = a.length * n
  | 0 => rfl
  | n + 1 => by
    rw [List.replicate_succ, List.flatten_cons, List.length_append, len_rep_flat a n, Nat.mul_succ, Nat.add_comm]
theorem rep_flat_nil {α : Type} : ∀ n : Nat, (List.replicate n ([] : List α)).flatten = []
  | 0 => rfl
  | n + 1 => by
    rw [List.replicate_succ, List.flatten_cons, rep_flat_nil n]
    rfl
section
variable {K : PySem.W.Frag} {N : Addr → Prop} {H : Hp} {Q : VK}
theorem bin_ok {op : Bop} {x y : V} {u v w : Val} (f : Fr H N) (rx : Rep K N H x u) (ry : Rep K N H y v) (e : binV op u v = .ok w) (g : Got K N H w Q) : rBin K op x y H Q := by
  cases op with
  | add =>
    cases rx with
    | int i =>
      cases ry with
      | int j =>
        cases e
        exact .inl ⟨_, _, rfl, rfl, g.int⟩
      | _ => cases e
    | str i =>
      cases ry with
      | str j =>
        simp only [binV] at e
        split at e
        · cases e
          rename_i hl
          exact .inr (.inr (.inr ⟨_, _, rfl, rfl, cap_line hl, g.str⟩))
        · cases e
      | _ => cases e
    | tup h hl r =>
      cases ry with
      | tup h' hl' r' =>
        simp only [binV] at e
        split at e
        · cases e
          rename_i hc
          refine .inr (.inl ⟨_, _, _, _, rfl, rfl, SqT.of h, SqT.of h', by rw [r.length, r'.length]; exact cap_line hc, fun q => ?_, fun q1 q2 => ?_, fun q1 q2 => ?_⟩)
          · subst q
            cases r
            exact g.old (.tup h' hl' r') fun _ z => nomatch z
          · subst q2
            cases r'
            rw [List.append_nil] at g
            exact g.old (.tup h hl r) fun _ z => nomatch z
          · exact g.tup (by rw [List.length_append]; exact hc) (r.append r')
        · cases e
      | _ => cases e
    | lst n h hl r =>
      cases ry with
      | lst n' h' hl' r' =>
        simp only [binV] at e
        split at e
        · cases e
          rename_i hc
          exact .inr (.inr (.inl ⟨_, _, _, _, rfl, rfl, h, h', by rw [r.length, r'.length]; exact cap_line hc, g.lst f (by rw [List.length_append]; exact hc) (r.append r')⟩))
        · cases e
      | _ => cases e
    | _ => cases e
  | sub =>
    cases rx with
    | int i =>
      cases ry with
      | int j =>
        cases e
        exact ⟨_, _, rfl, rfl, g.int⟩
      | _ => cases e
    | _ => cases e
  | mul =>
    cases rx with
    | int i =>
      cases ry with
      | int j =>
        simp only [binV] at e
        split at e
        · cases e
          rename_i hc
          refine .inl ⟨_, _, rfl, rfl, ?_, g.int⟩
          rw [Bool.or_eq_true] at hc
          rcases hc with hc | hc
          · simp only [small64, Bool.and_eq_true, decide_eq_true_eq] at hc
            exact .inl hc
          · simp only [small64, Bool.and_eq_true, decide_eq_true_eq] at hc
            exact .inr hc
        · cases e
      | _ => cases e
    | @tup a xs ws h hl r =>
      cases ry with
      | int k =>
        simp only [binV] at e
        split at e
        · cases e
          rename_i hc
          obtain ⟨h1, h2, h3, h4⟩ := hc
          by_cases hx : xs = []
          · subst hx
            cases r
            refine .inr (.inr (.inl ⟨_, _, _, rfl, rfl, SqT.of h, by omega, by omega, .inl rfl, ?_⟩))
            rw [rep_flat_nil] at g
            exact g.old (.tup h hl .nil) fun _ z => nomatch z
          · by_cases hk : 2 ≤ k
            · exact .inr (.inl ⟨_, _, _, rfl, rfl, SqT.of h, hx, hk, h3, by rw [r.length]; exact h1, g.tup (by rw [len_rep_flat]; exact h4) (r.flatRep _)⟩)
            · by_cases hk1 : k = 1
              · subst hk1
                refine .inr (.inr (.inl ⟨_, _, _, rfl, rfl, SqT.of h, by decide, by decide, .inr rfl, ?_⟩))
                have e1 : (List.replicate (1 : Int).toNat ws).flatten = ws := by simp
                rw [e1] at g
                exact g.old (.tup h hl r) fun _ z => nomatch z
              · have e0 : k.toNat = 0 := by omega
                rw [e0] at g
                exact .inr (.inr (.inr (.inl ⟨_, _, _, rfl, rfl, SqT.of h, by omega, by omega, hx, g.tup (Nat.zero_le _) .nil⟩)))
        · cases e
      | _ => cases e
    | @lst a xs ws n h hl r =>
      cases ry with
      | int k =>
        simp only [binV] at e
        split at e
        · cases e
          rename_i hc
          obtain ⟨h1, h2, h3, h4⟩ := hc
          exact .inr (.inr (.inr (.inr ⟨_, _, _, rfl, rfl, h, by omega, by omega, by rw [r.length]; exact cap_line h4, g.lst f (by rw [len_rep_flat]; exact h4) (r.flatRep _)⟩)))
        · cases e
      | _ => cases e
    | _ => cases e
  | fdiv =>
    cases rx with
    | int i =>
      cases ry with
      | int j =>
        simp only [binV] at e
        split at e
        · cases e
          rename_i hc
          exact ⟨_, _, rfl, rfl, hc, g.int⟩
        · cases e
      | _ => cases e
    | _ => cases e
  | mod =>
    cases rx with
    | int i =>
      cases ry with
      | int j =>
        simp only [binV] at e
        split at e
        · cases e
          rename_i hc
          exact ⟨_, _, rfl, rfl, hc, g.int⟩
        · cases e
      | _ => cases e
    | _ => cases e
  | pow =>
    cases rx with
    | int i =>
      cases ry with
      | int j =>
        simp only [binV] at e
        split at e
        · cases e
          rename_i hc
          exact ⟨_, _, rfl, rfl, hc, g.int⟩
        · cases e
      | _ => cases e
    | _ => cases e
end
end Lh
set_option Elab.async false
set_option linter.all false
set_option maxRecDepth 100000
set_option maxHeartbeats 4000000
namespace Lh
open PySem L2
theorem eqv_key (a b : Key) : Val.eqv (keyV a) (keyV b) = decide (a = b) := by
  cases a <;> cases b
  · rename_i i j
    show (i == j) = _
    by_cases h : i = j
    · subst h
      simp
    · rw [beq_eq_false_iff_ne.mpr h, decide_eq_false fun q => h (Sum.inl.inj q)]
  · rfl
  · rfl
  · rename_i i j
    show (i == j) = _
    by_cases h : i = j
    · subst h
      simp
    · rw [beq_eq_false_iff_ne.mpr h, decide_eq_false fun q => h (Sum.inr.inj q)]
theorem eqvs_key : ∀ a b : List Key, Val.eqvs (a.map keyV) (b.map keyV) = decide (a = b)
  | [], [] => rfl
  | [], _ :: _ => rfl
  | _ :: _, [] => rfl
  | x :: xs, y :: ys => by
    show (Val.eqv (keyV x) (keyV y) && Val.eqvs (xs.map keyV) (ys.map keyV)) = _
    rw [eqv_key, eqvs_key xs ys, ← Bool.decide_and]
    exact decide_eq_decide.mpr ⟨fun ⟨h1, h2⟩ => by rw [h1, h2], fun h => by cases h; exact ⟨rfl, rfl⟩⟩
section
variable {K : PySem.W.Frag} {N : Addr → Prop} {H : Hp}
theorem lookV_gen {κ : Type} [DecidableEq κ] (f : κ → Val) (hf : ∀ a b, Val.eqv (f a) (f b) = decide (a = b)) (k : κ) : ∀ (kvs : List (κ × V)) (ws : List Val), Reps K N H (kvs.map (·.2)) ws →
    (∀ v, valV kvs k = some v → ∃ w, lookV (kvs.map fun p => f p.1) ws (f k) = some w ∧ Rep K N H v w) ∧ (valV kvs k = none → lookV (kvs.map fun p => f p.1) ws (f k) = none) ∧
      ((kvs.map fun p => f p.1).any fun y => y.eqv (f k)) = (valV kvs k).isSome
  | [], _, r => by
    cases r
    exact ⟨fun v h => by simp [valV] at h, fun _ => rfl, rfl⟩
  | (j, v) :: kvs, _, r => by
    cases r with
    | @cons _ _ w ws h t =>
      obtain ⟨i1, i2, i3⟩ := lookV_gen f hf k kvs ws t
      by_cases e : j = k
      · subst e
        have e1 : valV ((j, v) :: kvs) j = some v := valV_pos rfl
        have e2 : Val.eqv (f j) (f j) = true := by rw [hf]; exact decide_eq_true rfl
        refine ⟨fun v' h' => ?_, fun h' => ?_, ?_⟩
        · rw [e1] at h'
          cases h'
          exact ⟨w, by show (if Val.eqv (f j) (f j) = true then some w else _) = _; rw [if_pos e2], h⟩
        · rw [e1] at h'
          cases h'
        · rw [e1]
          show (Val.eqv (f j) (f j) || _) = true
          rw [e2, Bool.true_or]
      · have e1 : valV ((j, v) :: kvs) k = valV kvs k := valV_neg e
        have e2 : Val.eqv (f j) (f k) = false := by rw [hf]; exact decide_eq_false e
        have e3 : lookV (((j, v) :: kvs).map fun p => f p.1) (w :: ws) (f k) = lookV (kvs.map fun p => f p.1) ws (f k) := by
          show (if Val.eqv (f j) (f k) = true then some w else _) = _
          rw [e2]
          rfl
        rw [e1, e3]
        refine ⟨i1, i2, ?_⟩
        show (Val.eqv (f j) (f k) || _) = _
        rw [e2, Bool.false_or]
        exact i3
theorem key_of {x : V} {u : Val} (r : Rep K N H x u) (h : keyFits true u = true) : ∃ k : Key, x = kV k ∧ u = keyV k := by
  cases r with
  | int i => exact ⟨.inl i, rfl, rfl⟩
  | str s => exact ⟨.inr s, rfl, rfl⟩
  | _ => exact nomatch h
theorem keys_of : ∀ {xs : List V} {us : List Val}, Reps K N H xs us → (us.all fun x => match x with
    | .int _ => true
    | .str _ => true
    | _ => false) = true → ∃ k : List Key, xs = k.map kV ∧ us = k.map keyV
  | _, _, .nil, _ => ⟨[], rfl, rfl⟩
  | _, _, .cons r t, h => by
    rw [List.all_cons, Bool.and_eq_true] at h
    obtain ⟨k, e1, e2⟩ := keys_of t h.2
    cases r with
    | int i => exact ⟨.inl i :: k, by rw [e1]; rfl, by rw [e2]; rfl⟩
    | str s => exact ⟨.inr s :: k, by rw [e1]; rfl, by rw [e2]; rfl⟩
    | _ => exact nomatch h.1
theorem keyT_of {x : V} {u : Val} (r : Rep K N H x u) (h : keyFits false u = true) : ∃ (k : List Key) (b : Addr), x = .ref b ∧ H b = some (.tup (k.map kV)) ∧ u = .tup (k.map keyV) := by
  cases r with
  | tup h1 hl r =>
    obtain ⟨k, e1, e2⟩ := keys_of r h
    subst e1
    subst e2
    exact ⟨k, _, rfl, h1, rfl⟩
  | _ => exact nomatch h
theorem dget_ok {x d : V} {u : Val} {k : Bool} {ks ws : List Val} (rx : Rep K N H x u) (rd : Rep K N H d (.dct k ks ws)) (hk : keyFits k u = true) :
    ∃ a o, d = .ref a ∧ DGet H a x o ∧ (∀ v, o = some v → ∃ w, lookV ks ws u = some w ∧ Rep K N H v w) ∧ (o = none → lookV ks ws u = none) ∧ (ks.any fun y => y.eqv u) = o.isSome := by
  cases rd with
  | dK n h hk1 hl r =>
    obtain ⟨key, rfl, rfl⟩ := key_of rx hk
    subst hk1
    obtain ⟨i1, i2, i3⟩ := lookV_gen keyV eqv_key key _ _ r
    exact ⟨_, _, rfl, DGet.k h, i1, i2, i3⟩
  | dT n h hk1 hl r =>
    obtain ⟨key, b, rfl, hb, rfl⟩ := keyT_of rx hk
    obtain ⟨_, hk1⟩ := hk1
    subst hk1
    obtain ⟨i1, i2, i3⟩ := lookV_gen (fun l : List Key => Val.tup (l.map keyV)) (fun a b => eqvs_key a b) key _ _ r
    exact ⟨_, _, rfl, DGet.t h hb, i1, i2, i3⟩
end
def kcm : Cop → CmpOp
  | .lt => .Lt
  | .le => .LtE
  | .gt => .Gt
  | .ge => .GtE
  | .eq => .Eq
  | .ne => .NotEq
  | .isin => .In
  | .notin => .NotIn
  | .is => .Is
  | .isnot => .IsNot
def rSign (neg : Bool) : R2 := fun x y H Q => ∃ (c : Nat) (z : Str), x = .str ⟨#[c]⟩ ∧ y = .str z ∧ Q (.bl (if neg then !decide (c ∈ z.cps.toList) else decide (c ∈ z.cps.toList))) H
def rInDct (neg : Bool) : R2 := fun x y H Q => ∃ a o, y = .ref a ∧ DGet H a x o ∧ Q (.bl (if neg then !o.isSome else o.isSome)) H
def rIsNon (neg : Bool) : R2 := fun x y H Q => y = .non ∧ Q (.bl (if neg then !decide (x = .non) else decide (x = .non))) H
def rIsB (neg : Bool) : R2 := fun x y H Q => ∃ a b, x = .bl a ∧ y = .bl b ∧ Q (.bl (if neg then !decide (a = b) else decide (a = b))) H
def rCmp (K : PySem.W.Frag) : Cop → R2
  | .lt => rI0 fun i j => .bl (decide (i < j))
  | .le => rI0 fun i j => .bl (decide (i ≤ j))
  | .gt => rI0 fun i j => .bl (decide (j < i))
  | .ge => rI0 fun i j => .bl (decide (j ≤ i))
  | .eq => rEqD K
  | .ne => rNeD K
  | .isin => fun x y H Q => rInD K x y H Q ∨ (rIn K false x y H Q ∨ (rSign false x y H Q ∨ rInDct false x y H Q))
  | .notin => fun x y H Q => rNotInD K x y H Q ∨ (rIn K true x y H Q ∨ (rSign true x y H Q ∨ rInDct true x y H Q))
  | .is => fun x y H Q => rIsNon false x y H Q ∨ rIsB false x y H Q
  | .isnot => fun x y H Q => rIsNon true x y H Q ∨ rIsB true x y H Q
section
variable {X : Cx}
theorem op_indct (hu : X.A.units + 1 < cLine) : OpR X (compareOp .In) (rInDct false) := by
  intro pins s σ H x y v u Q I rx ry h
  obtain ⟨a, o, rfl, g, q⟩ := h
  obtain rfl : u = Value.ref a := ry
  exact d_in hu I g rx fun s3 I3 => ⟨.bl o.isSome, H, I3, rfl, q⟩
theorem op_notindct (hu : X.A.units + 1 < cLine) : OpR X (compareOp .NotIn) (rInDct true) := by
  intro pins s σ H x y v u Q I rx ry h
  obtain ⟨a, o, rfl, g, q⟩ := h
  obtain rfl : u = Value.ref a := ry
  exact d_notIn hu I g rx fun s3 I3 => ⟨.bl (!o.isSome), H, I3, rfl, q⟩
theorem opr_cmp (hu : X.A.units + 65 < cLine) : ∀ op, OpR X (compareOp (kcm op)) (rCmp X.K op)
  | .lt => op_lt
  | .le => op_le
  | .gt => op_gt
  | .ge => op_ge
  | .eq => op_eqD (Nat.lt_of_le_of_lt (Nat.add_le_add_left (by decide) _) hu)
  | .ne => op_neD (Nat.lt_of_le_of_lt (Nat.add_le_add_left (by decide) _) hu)
  | .isin => OpR.or (op_inD hu) (OpR.or op_in_seq (OpR.or op_in_sign (op_indct (Nat.lt_of_le_of_lt (Nat.add_le_add_left (by decide) _) hu))))
  | .notin => OpR.or (op_notInD hu) (OpR.or op_notIn_seq (OpR.or op_notIn_sign (op_notindct (Nat.lt_of_le_of_lt (Nat.add_le_add_left (by decide) _) hu))))
  | .is => OpR.or op_isN op_is_bl
  | .isnot => OpR.or op_notN op_isnot_bl
end
theorem flat_rep {K : PySem.W.Frag} {N : Addr → Prop} {H : Hp} {x : V} {u : Val} (r : Rep K N H x u) (h : u.flat = true) : flatV x = true := by
  cases r <;> first | rfl | exact nomatch h
theorem flats_rep {K : PySem.W.Frag} {N : Addr → Prop} {H : Hp} : ∀ {x : List V} {u : List Val}, Reps K N H x u → u.all Val.flat = true → x.all flatV = true
  | _, _, .nil, _ => rfl
  | _, _, .cons r t, h => by
    rw [List.all_cons, Bool.and_eq_true] at h ⊢
    exact ⟨flat_rep r h.1, flats_rep t h.2⟩
theorem eqV_rep {K : PySem.W.Frag} {N : Addr → Prop} {H : Hp} {x y : V} {u v : Val} (rx : Rep K N H x u) (ry : Rep K N H y v) (hx : u.flat = true) (hy : v.flat = true) : eqV x y = u.eqv v := by
  cases rx <;> cases ry <;> first | rfl | exact nomatch hx | exact nomatch hy
theorem inV_rep {K : PySem.W.Frag} {N : Addr → Prop} {H : Hp} {x : V} {u : Val} (rx : Rep K N H x u) (hx : u.flat = true) : ∀ {ys : List V} {vs : List Val}, Reps K N H ys vs → vs.all Val.flat = true → inV x ys = vs.any fun y => y.eqv u
  | _, _, .nil, _ => rfl
  | _, _, .cons r t, h => by
    rw [List.all_cons, Bool.and_eq_true] at h
    show (eqV _ x || inV x _) = _
    rw [List.any_cons, eqV_rep r rx h.1 hx, inV_rep rx hx t h.2]
theorem any_pd {n m : Nat} {u : Val} (hu : u.lay m = true) : ∀ {ws : List Val}, ws.all (Val.lay n) = true → ((toPDs ws).any fun z => PyData.eqv z (toPD u)) = ws.any fun y => y.eqv u
  | [], _ => rfl
  | w :: ws, h => by
    rw [List.all_cons, Bool.and_eq_true] at h
    show (PyData.eqv (toPD w) (toPD u) || _) = _
    rw [List.any_cons, eqv_pd n m w u h.1 hu, any_pd hu h.2]
theorem isNon_rep {K : PySem.W.Frag} {N : Addr → Prop} {H : Hp} {x : V} {u : Val} (r : Rep K N H x u) : decide (x = .non) = isNonV u := by
  cases r <;> first | rfl | exact decide_eq_false (fun h => nomatch h)
section
variable {K : PySem.W.Frag} {N : Addr → Prop} {H : Hp} {Q : VK}
theorem isin_ok {x y : V} {u v : Val} {b : Bool} (rx : Rep K N H x u) (ry : Rep K N H y v) (e : isInV u v = .ok b) : 
    (rInD K x y H fun z H' => H' = H ∧ z = .bl b) ∨ (rIn K false x y H fun z H' => H' = H ∧ z = .bl b) ∨ (rSign false x y H fun z H' => H' = H ∧ z = .bl b) ∨ (rInDct false x y H fun z H' => H' = H ∧ z = .bl b) := by
  cases ry with
  | @lst a xs ws n h hl r =>
    simp only [isInV] at e
    split at e
    · cases e
      rename_i hc
      rw [Bool.and_eq_true] at hc
      refine .inl ⟨toPD u, toPDs ws, rx.dp hc.1, .lst (SqL.of h) (r.dp hc.2), lay_shaped (by decide) hc.1, lay_shaped (n := 60) (w := .lst ws) (by decide) hc.2, rfl, ?_⟩
      rw [any_pd hc.1 hc.2]
    · cases e
  | @scr a xs ws h hl r =>
    simp only [isInV] at e
    split at e
    · cases e
      rename_i hc
      rw [Bool.and_eq_true] at hc
      refine .inl ⟨toPD u, toPDs ws, rx.dp hc.1, .lst h.sq (r.dp hc.2), lay_shaped (by decide) hc.1, lay_shaped (n := 60) (w := .scr ws) (by decide) hc.2, rfl, ?_⟩
      rw [any_pd hc.1 hc.2]
    · cases e
  | @tup a xs ws h hl r =>
    simp only [isInV] at e
    split at e
    · cases e
      rename_i hc
      rw [Bool.and_eq_true] at hc
      refine .inr (.inl ⟨a, xs, rfl, .inr (SqT.of h), flat_rep rx hc.1, flats_rep r hc.2, rfl, ?_⟩)
      rw [inV_rep rx hc.1 r hc.2]
      rfl
    · cases e
  | str z =>
    simp only [isInV] at e
    cases e1 : oneSign u with
    | none =>
      rw [e1] at e
      cases e
    | some c =>
      rw [e1] at e
      cases e
      cases rx with
      | str s =>
        have e2 : s = ⟨#[c]⟩ := by
          obtain ⟨l⟩ := s
          simp only [oneSign] at e1
          split at e1
          · rename_i c' e3
            cases e1
            have e4 : l = #[c] := by
              rw [← Array.toArray_toList (xs := l), e3]
            rw [e4]
          · cases e1
        subst e2
        exact .inr (.inr (.inl ⟨c, z, rfl, rfl, rfl, rfl⟩))
      | _ => cases e1
  | @dK a kvs ks ws n h hk hl r =>
    simp only [isInV] at e
    split at e
    · cases e
      rename_i hc
      obtain ⟨a', o, e1, g, _, _, e3⟩ := dget_ok rx (.dK n h hk hl r) hc
      refine .inr (.inr (.inr ⟨a', o, e1, g, rfl, ?_⟩))
      rw [e3]
      rfl
    · cases e
  | @dT a kvs ks ws n h hk hl r =>
    simp only [isInV] at e
    split at e
    · cases e
      rename_i hc
      obtain ⟨a', o, e1, g, _, _, e3⟩ := dget_ok rx (.dT n h hk hl r) hc
      refine .inr (.inr (.inr ⟨a', o, e1, g, rfl, ?_⟩))
      rw [e3]
      rfl
    · cases e
  | _ => cases e
theorem cmp_ok {op : Cop} {x y : V} {u v w : Val} (rx : Rep K N H x u) (ry : Rep K N H y v) (e : cmpV op u v = .ok w) (g : Got K N H w Q) : rCmp K op x y H Q := by
  cases op with
  | lt =>
    cases rx with
    | int i =>
      cases ry with
      | int j =>
        cases e
        exact ⟨_, _, rfl, rfl, g.bool⟩
      | _ => cases e
    | _ => cases e
  | le =>
    cases rx with
    | int i =>
      cases ry with
      | int j =>
        cases e
        exact ⟨_, _, rfl, rfl, g.bool⟩
      | _ => cases e
    | _ => cases e
  | gt =>
    cases rx with
    | int i =>
      cases ry with
      | int j =>
        cases e
        exact ⟨_, _, rfl, rfl, g.bool⟩
      | _ => cases e
    | _ => cases e
  | ge =>
    cases rx with
    | int i =>
      cases ry with
      | int j =>
        cases e
        exact ⟨_, _, rfl, rfl, g.bool⟩
      | _ => cases e
    | _ => cases e
  | eq =>
    simp only [cmpV] at e
    split at e
    · cases e
      rename_i hc
      rw [Bool.and_eq_true] at hc
      refine ⟨_, _, rx.dp hc.1, ry.dp hc.2, lay_shaped (by decide) hc.1, lay_shaped (by decide) hc.2, ?_⟩
      rw [eqv_pd 60 60 u v hc.1 hc.2]
      exact g.bool
    · cases e
  | ne =>
    simp only [cmpV] at e
    split at e
    · cases e
      rename_i hc
      rw [Bool.and_eq_true] at hc
      refine ⟨_, _, rx.dp hc.1, ry.dp hc.2, lay_shaped (by decide) hc.1, lay_shaped (by decide) hc.2, ?_⟩
      rw [eqv_pd 60 60 u v hc.1 hc.2]
      exact g.bool
    · cases e
  | isin =>
    simp only [cmpV] at e
    cases e1 : isInV u v with
    | ok b =>
      rw [e1] at e
      cases e
      rcases isin_ok rx ry e1 with ⟨d, ds, a1, a2, a3, a4, a5, a6⟩ | ⟨p, xs, a1, a2, a3, a4, a5, a6⟩ | ⟨c, z, a1, a2, a5, a6⟩ | ⟨a, o, a1, a2, a5, a6⟩
      · exact .inl ⟨d, ds, a1, a2, a3, a4, by rw [a6]; exact g.bool⟩
      · exact .inr (.inl ⟨p, xs, a1, a2, a3, a4, by rw [a6]; exact g.bool⟩)
      · exact .inr (.inr (.inl ⟨c, z, a1, a2, by rw [a6]; exact g.bool⟩))
      · exact .inr (.inr (.inr ⟨a, o, a1, a2, by rw [a6]; exact g.bool⟩))
    | exc c =>
      rw [e1] at e
      cases e
    | stuck =>
      rw [e1] at e
      cases e
  | notin =>
    simp only [cmpV] at e
    cases e1 : isInV u v with
    | ok b =>
      rw [e1] at e
      cases e
      rcases isin_ok rx ry e1 with ⟨d, ds, a1, a2, a3, a4, a5, a6⟩ | ⟨p, xs, a1, a2, a3, a4, a5, a6⟩ | ⟨c, z, a1, a2, a5, a6⟩ | ⟨a, o, a1, a2, a5, a6⟩
      · refine .inl ⟨d, ds, a1, a2, a3, a4, ?_⟩
        rw [V.bl.inj a6]
        exact g.bool
      · refine .inr (.inl ⟨p, xs, a1, a2, a3, a4, ?_⟩)
        have a7 : inV x xs = b := V.bl.inj a6
        show Q (.bl (!inV x xs)) H
        rw [a7]
        exact g.bool
      · refine .inr (.inr (.inl ⟨c, z, a1, a2, ?_⟩))
        have a7 : decide (c ∈ z.cps.toList) = b := V.bl.inj a6
        show Q (.bl (!decide (c ∈ z.cps.toList))) H
        rw [a7]
        exact g.bool
      · refine .inr (.inr (.inr ⟨a, o, a1, a2, ?_⟩))
        have a7 : o.isSome = b := V.bl.inj a6
        show Q (.bl (!o.isSome)) H
        rw [a7]
        exact g.bool
    | exc c =>
      rw [e1] at e
      cases e
    | stuck =>
      rw [e1] at e
      cases e
  | is =>
    cases ry with
    | non =>
      cases e
      refine .inl ⟨rfl, ?_⟩
      show Q (.bl (decide (x = .non))) H
      rw [isNon_rep rx]
      exact g.bool
    | bool b =>
      cases rx with
      | bool a =>
        cases e
        exact .inr ⟨a, b, rfl, rfl, g.bool⟩
      | _ => cases e
    | _ => cases rx <;> cases e
  | isnot =>
    cases ry with
    | non =>
      cases e
      refine .inl ⟨rfl, ?_⟩
      show Q (.bl (!decide (x = .non))) H
      rw [isNon_rep rx]
      exact g.bool
    | bool b =>
      cases rx with
      | bool a =>
        cases e
        exact .inr ⟨a, b, rfl, rfl, g.bool⟩
      | _ => cases e
    | _ => cases rx <;> cases e
end
end Lh
set_option Elab.async false
set_option linter.all false
set_option maxRecDepth 100000
set_option maxHeartbeats 4000000
namespace Lh
open L2 (atI)
open PySem L2
/-- as Got, a list perhaps an old one -/
def GotN (K : PySem.W.Frag) (N : Addr → Prop) (H : Hp) (w : Val) (Q : VK) : Prop := ∀ z H', Same H H' → Rep K N H' z w → Q z H'
def rIxDct : R2 := fun x y H Q => ∃ a v, x = .ref a ∧ DGet H a y (some v) ∧ Q v H
def rIdx (K : PySem.W.Frag) : R2 := fun x y H Q => rIxL K x y H Q ∨ (rIxT K x y H Q ∨ (rIxDct x y H Q ∨ rIxS x y H Q))
theorem ix_dct {X : Cx} (hu : X.A.units + 1 < cLine) : IxR X rIxDct := by
  intro value slice pins s σ H x y v u Q I rx ry h hs
  obtain ⟨a, r, rfl, g, q⟩ := h
  obtain rfl : v = Value.ref a := rx
  exact PyProof.Rows.tail_any (dict_typeIs I g) PySem.F.slot_dict_getitem.lookup (d_getItem hu I g ry fun w' s3 I3 rw' => ⟨r, H, I3, rw', q⟩) hs
theorem ixr_idx {X : Cx} (hu : X.A.units + 1 < cLine) : IxR X (rIdx X.K) := IxR.or ix_list (IxR.or ix_tup (IxR.or (ix_dct hu) ix_str))
section
variable {K : PySem.W.Frag} {N : Addr → Prop} {H : Hp} {Q : VK}
theorem optR_ok {o : Option Val} {w : Val} (e : optR o = .ok w) : o = some w := by
  cases o with
  | none => cases e
  | some v => cases e; rfl
theorem idx_ok {x y : V} {u v w : Val} (rx : Rep K N H x u) (ry : Rep K N H y v) (e : idxV u v = .ok w) (g : GotN K N H w Q) : rIdx K x y H Q := by
  cases rx with
  | tup h hl r =>
    cases ry with
    | int i =>
      obtain ⟨z, e1, r1⟩ := r.atIR (optR_ok e)
      exact .inr (.inl ⟨_, _, i, z, rfl, rfl, SqT.of h, e1, g _ _ (Same.refl H) r1⟩)
    | _ => cases e
  | lst n h hl r =>
    cases ry with
    | int i =>
      obtain ⟨z, e1, r1⟩ := r.atIR (optR_ok e)
      exact .inl ⟨_, _, i, z, rfl, rfl, SqL.of h, e1, g _ _ (Same.refl H) r1⟩
    | _ => cases e
  | scr h hl r =>
    cases ry with
    | int i =>
      obtain ⟨z, e1, r1⟩ := r.atIR (optR_ok e)
      exact .inl ⟨_, _, i, z, rfl, rfl, h.sq, e1, g _ _ (Same.refl H) r1⟩
    | _ => cases e
  | @dK a kvs ks ws n h hk hl r =>
    have e' : (if keyFits true v = true then optR (lookV ks ws v) else Res.stuck) = .ok w := by cases ry <;> exact e
    split at e'
    · rename_i hf
      obtain ⟨a', o, e1, gt, a1, a2, a3⟩ := dget_ok ry (.dK n h hk hl r) hf
      have e2 := optR_ok e'
      cases o with
      | none =>
        rw [a2 rfl] at e2
        cases e2
      | some z =>
        obtain ⟨w', e3, r3⟩ := a1 z rfl
        rw [e3] at e2
        cases e2
        exact .inr (.inr (.inl ⟨a', z, e1, gt, g _ _ (Same.refl H) r3⟩))
    · cases e'
  | @dT a kvs ks ws n h hk hl r =>
    have e' : (if keyFits false v = true then optR (lookV ks ws v) else Res.stuck) = .ok w := by cases ry <;> exact e
    split at e'
    · rename_i hf
      obtain ⟨a', o, e1, gt, a1, a2, a3⟩ := dget_ok ry (.dT n h hk hl r) hf
      have e2 := optR_ok e'
      cases o with
      | none =>
        rw [a2 rfl] at e2
        cases e2
      | some z =>
        obtain ⟨w', e3, r3⟩ := a1 z rfl
        rw [e3] at e2
        cases e2
        exact .inr (.inr (.inl ⟨a', z, e1, gt, g _ _ (Same.refl H) r3⟩))
    · cases e'
  | str z =>
    cases ry with
    | int i =>
      have e' : (if z.length ≤ cap then optR ((atI z.cps.toList i).map fun c => .str ⟨#[c]⟩) else Res.stuck) = .ok w := e
      split at e'
      · rename_i hz
        cases hc : atI z.cps.toList i with
        | none =>
          rw [hc] at e'
          cases e'
        | some c =>
          rw [hc] at e'
          cases e'
          exact .inr (.inr (.inr ⟨z, i, c, rfl, rfl, cap_line hz, hc, g _ _ (Same.refl H) (.str _)⟩))
      · cases e'
    | _ => cases e
  | _ => cases e
def rSl (K : PySem.W.Frag) : V → Option Int → Option Int → Hp → VK → Prop := fun x lo hi H Q => rSlL K x lo hi H Q ∨ (rSlA K x lo hi H Q ∨ rSlS x lo hi H Q)
theorem slr_sl {X : Cx} : SlR X (rSl X.K) := SlR.or sl_list (SlR.or sl_tupA sl_str)
theorem slice_ok {x : V} {u w : Val} {lo hi : Option Int} (f : Fr H N) (rx : Rep K N H x u) (e : sliceV lo hi u = .ok w) (g : Got K N H w Q) : rSl K x lo hi H Q := by
  cases rx with
  | @tup a xs ws h hl r =>
    cases e
    refine .inr (.inl ⟨_, _, rfl, SqT.of h, fun q => ?_, fun q => g.tup (Nat.le_trans (cut_length _ _ _) hl) (r.cutR lo hi)⟩)
    have e1 : Lh.cut ws lo hi = ws := by
      unfold Lh.cut
      rw [← sIx_eq, ← sIx_eq, ← r.length, q.1, q.2, List.drop_zero, Nat.sub_zero, r.length, List.take_length]
    rw [e1] at g
    exact g.old (.tup h hl r) fun _ z => nomatch z
  | lst n h hl r =>
    cases e
    exact .inl ⟨_, _, rfl, SqL.of h, g.lst f (Nat.le_trans (cut_length _ _ _) hl) (r.cutR lo hi)⟩
  | scr h hl r =>
    cases e
    exact .inl ⟨_, _, rfl, h.sq, g.lst f (Nat.le_trans (cut_length _ _ _) hl) (r.cutR lo hi)⟩
  | str z =>
    simp only [sliceV] at e
    split at e
    · rename_i hz
      cases e
      refine .inr (.inr ⟨z, rfl, cap_line hz, ?_⟩)
      have e1 : cutS z lo hi = cutStr z lo hi := by
        unfold cutS cutStr Lh.cut
        rw [sIx_eq, sIx_eq]
        have e2 : z.length = z.cps.toList.length := by simp [Str.length]
        rw [e2]
      rw [e1]
      exact g.str
    · cases e
  | _ => cases e
end
end Lh
set_option Elab.async false
set_option linter.all false
set_option maxRecDepth 100000
set_option maxHeartbeats 4000000
namespace Lh
open PySem L2
theorem intsOf_eq : ∀ {ws : List Val} {ns : List Int}, intsOf ws = some ns → ws = ns.map .int
  | [], ns, h => by
    cases h
    rfl
  | .int i :: r, ns, h => by
    simp only [intsOf] at h
    cases e : intsOf r with
    | none =>
      rw [e] at h
      cases h
    | some l =>
      rw [e] at h
      cases h
      rw [intsOf_eq e]
      rfl
  | .non :: r, ns, h => nomatch h
  | .bool _ :: r, ns, h => nomatch h
  | .str _ :: r, ns, h => nomatch h
  | .tup _ :: r, ns, h => nomatch h
  | .lst _ :: r, ns, h => nomatch h
  | .scr _ :: r, ns, h => nomatch h
  | .dct _ _ _ :: r, ns, h => nomatch h
  | .exc _ :: r, ns, h => nomatch h
theorem boolsOf_eq : ∀ {ws : List Val} {ns : List Bool}, boolsOf ws = some ns → ws = ns.map .bool
  | [], ns, h => by
    cases h
    rfl
  | .bool i :: r, ns, h => by
    simp only [boolsOf] at h
    cases e : boolsOf r with
    | none =>
      rw [e] at h
      cases h
    | some l =>
      rw [e] at h
      cases h
      rw [boolsOf_eq e]
      rfl
  | .non :: r, ns, h => nomatch h
  | .int _ :: r, ns, h => nomatch h
  | .str _ :: r, ns, h => nomatch h
  | .tup _ :: r, ns, h => nomatch h
  | .lst _ :: r, ns, h => nomatch h
  | .scr _ :: r, ns, h => nomatch h
  | .dct _ _ _ :: r, ns, h => nomatch h
  | .exc _ :: r, ns, h => nomatch h
section
variable {K : PySem.W.Frag} {N : Addr → Prop} {H : Hp} {Q : VK}
theorem Reps.ints : ∀ {ns : List Int} {xs : List V}, Reps K N H xs (ns.map .int) → xs = ns.map .int
  | [], _, r => by
    cases r
    rfl
  | n :: ns, _, r => by
    cases r with
    | cons h t =>
      cases h
      rw [Reps.ints t]
      rfl
theorem Reps.bools : ∀ {ns : List Bool} {xs : List V}, Reps K N H xs (ns.map .bool) → xs = ns.map .bl
  | [], _, r => by
    cases r
    rfl
  | n :: ns, _, r => by
    cases r with
    | cons h t =>
      cases h
      rw [Reps.bools t]
      rfl
theorem reps_ints : ∀ ns : List Int, Reps K N H (ns.map .int) (ns.map .int)
  | [] => .nil
  | n :: r => .cons (.int n) (reps_ints r)
theorem maxL_ge : ∀ (r : List Int) (m : Int), m ≤ maxL m r ∧ (∀ y ∈ r, y ≤ maxL m r) ∧ (maxL m r = m ∨ maxL m r ∈ r)
  | [], m => ⟨Int.le_refl _, ⟨fun _ h => absurd h (List.not_mem_nil), .inl rfl⟩⟩
  | x :: r, m => by
    obtain ⟨a, b, c⟩ := maxL_ge r (if x > m then x else m)
    have e : maxL m (x :: r) = maxL (if x > m then x else m) r := rfl
    rw [e]
    by_cases h : x > m
    · rw [if_pos h] at a b c ⊢
      refine ⟨by omega, fun y hy => ?_, ?_⟩
      · rcases List.mem_cons.mp hy with z | z
        · rw [z]
          exact a
        · exact b y z
      · rcases c with c | c
        · exact .inr (by rw [c]; exact List.mem_cons_self)
        · exact .inr (List.mem_cons_of_mem _ c)
    · rw [if_neg h] at a b c ⊢
      refine ⟨a, fun y hy => ?_, ?_⟩
      · rcases List.mem_cons.mp hy with z | z
        · rw [z]
          omega
        · exact b y z
      · rcases c with c | c
        · exact .inl c
        · exact .inr (List.mem_cons_of_mem _ c)
/-- the greatest is one -/
theorem max_one {x : Int} {r : List Int} {m : Int} (h1 : m ∈ x :: r) (h2 : ∀ y, y ∈ x :: r → y ≤ m) : m = maxL x r := by
  obtain ⟨a, b, c⟩ := maxL_ge r x
  have e1 : m ≤ maxL x r := by
    rcases List.mem_cons.mp h1 with z | z
    · rw [z]
      exact a
    · exact b m z
  have e2 : maxL x r ≤ m := by
    rcases c with c | c
    · rw [c]
      exact h2 x List.mem_cons_self
    · exact h2 _ (List.mem_cons_of_mem _ c)
  omega
def insI (x : Int) : List Int → List Int
  | [] => [x]
  | y :: r => if x < y then x :: y :: r else y :: insI x r
def sortI : List Int → List Int
  | [] => []
  | x :: r => insI x (sortI r)
theorem insV_int (x : Int) : ∀ r : List Int, insV (.int x) (r.map .int) = (insI x r).map .int
  | [] => rfl
  | y :: r => by
    show (if decide (x < y) = true then _ else _) = _
    unfold insI
    by_cases h : x < y
    · rw [if_pos (decide_eq_true h), if_pos h]
      rfl
    · rw [if_neg (by rw [decide_eq_false h]; exact Bool.false_ne_true), if_neg h, insV_int x r]
      rfl
theorem sortV_int : ∀ r : List Int, sortV (r.map .int) = (sortI r).map .int
  | [] => rfl
  | y :: r => by
    show insV (.int y) (sortV (r.map .int)) = _
    rw [sortV_int r, insV_int]
    rfl
theorem insI_perm (x : Int) : ∀ r : List Int, (insI x r).Perm (x :: r)
  | [] => .refl _
  | y :: r => by
    unfold insI
    split
    · exact .refl _
    · exact ((insI_perm x r).cons y).trans (.swap x y r)
theorem sortI_perm : ∀ r : List Int, (sortI r).Perm r
  | [] => .refl _
  | y :: r => (insI_perm y (sortI r)).trans ((sortI_perm r).cons y)
theorem insI_sorted (x : Int) : ∀ r : List Int, r.Pairwise (· ≤ ·) → (insI x r).Pairwise (· ≤ ·)
  | [], _ => by simp [insI]
  | y :: r, h => by
    obtain ⟨h1, h2⟩ := List.pairwise_cons.mp h
    unfold insI
    split
    · rename_i hx
      refine List.pairwise_cons.mpr ⟨fun z hz => ?_, h⟩
      rcases List.mem_cons.mp hz with e | e
      · omega
      · have := h1 z e
        omega
    · rename_i hx
      refine List.pairwise_cons.mpr ⟨fun z hz => ?_, insI_sorted x r h2⟩
      rcases List.mem_cons.mp ((insI_perm x r).mem_iff.mp hz) with e | e
      · omega
      · exact h1 z e
theorem sortI_sorted : ∀ r : List Int, (sortI r).Pairwise (· ≤ ·)
  | [] => .nil
  | y :: r => insI_sorted y _ (sortI_sorted r)
theorem sort_one {ns ns' : List Int} (p : ns'.Perm ns) (s : ns'.Pairwise (· ≤ ·)) : ns' = sortI ns :=
  List.Perm.eq_of_pairwise (fun a b _ _ h1 h2 => Int.le_antisymm h1 h2) s (sortI_sorted ns) (p.trans (sortI_perm ns).symm)
def tyName : Ty → String
  | .int => "int"
  | .bool => "bool"
  | .tup => "tuple"
  | .lst => "list"
  | .dct => "dict"
def rLenA (K : PySem.W.Frag) : List V → Hp → VK → Prop := fun xs H Q => (∃ p ys, xs = [.ref p] ∧ (SqL K H p ys ∨ SqT K H p ys) ∧ Q (.int ys.length) H) ∨ ∃ z, xs = [.str z] ∧ z.length ≤ sizeLine ∧ Q (.int z.length) H
def rListA (K : PySem.W.Frag) : List V → Hp → VK → Prop := fun xs H Q => (∃ p ys, xs = [.ref p] ∧ (SqL K H p ys ∨ SqT K H p ys) ∧ ∀ l, H l = none → Q (.ref l) (upd H l (.lst ys))) ∨ (rListD xs H Q ∨
  ∃ d kvs, xs = [V.ref d] ∧ Rd H d (.dT kvs) ∧ ∀ p bs, H p = none → IsKeys H kvs bs → Q (.ref p) (upd H p (.lst (bs.map V.ref))))
def rTupA (K : PySem.W.Frag) : List V → Hp → VK → Prop := fun xs H Q => ∃ p ys, xs = [.ref p] ∧ ((SqL K H p ys ∧ ∀ l, H l = none → Q (.ref l) (upd H l (.tup ys))) ∨ (SqT K H p ys ∧ Q (.ref p) H))
def rMin2A : List V → Hp → VK → Prop := fun xs H Q => ∃ i j, xs = [.int i, .int j] ∧ Q (.int (if j < i then j else i)) H
def rInt1 : List V → Hp → VK → Prop := fun xs H Q => (∃ i, xs = [.int i] ∧ Q (.int i) H) ∨ ∃ k, xs = [.bl k] ∧ Q (.int (if k then 1 else 0)) H
theorem items_ok {v : V} {u : Val} {ws : List Val} (r : Rep K N H v u) (e : itemsOf u = some ws) : ∃ p ys, v = .ref p ∧ (SqL K H p ys ∨ SqT K H p ys) ∧ Reps K N H ys ws ∧ ws.length ≤ cap := by
  cases r with
  | tup h hl r =>
    cases e
    exact ⟨_, _, rfl, .inr (SqT.of h), r, hl⟩
  | lst n h hl r =>
    cases e
    exact ⟨_, _, rfl, .inl (SqL.of h), r, hl⟩
  | scr h hl r =>
    cases e
    exact ⟨_, _, rfl, .inl h.sq, r, hl⟩
  | _ => cases e
theorem len_ok {v : V} {u w : Val} (r : Rep K N H v u) (e : biV .len [u] = .ok w) (g : Got K N H w Q) : rLenA K [v] H Q := by
  cases r with
  | tup h hl r =>
    cases e
    refine .inl ⟨_, _, rfl, .inr (SqT.of h), ?_⟩
    rw [r.length]
    exact g.int
  | lst n h hl r =>
    cases e
    refine .inl ⟨_, _, rfl, .inl (SqL.of h), ?_⟩
    rw [r.length]
    exact g.int
  | scr h hl r =>
    cases e
    refine .inl ⟨_, _, rfl, .inl h.sq, ?_⟩
    rw [r.length]
    exact g.int
  | str z =>
    simp only [biV] at e
    split at e
    · cases e
      rename_i hz
      exact .inr ⟨z, rfl, cap_line hz, g.int⟩
    · cases e
  | _ => cases e
theorem keys_rep {Hh : Hp} : ∀ {kvs : List (List Key × V)} {bs : List Addr}, IsKeys Hh kvs bs → (∀ p ∈ kvs, (p.1).length ≤ cap) → Reps K N Hh (bs.map V.ref) (kvs.map fun p => Val.tup (p.1.map keyV))
  | _, _, .nil, _ => .nil
  | (k, v) :: kvs, b :: bs, .cons h t, hl => by
    refine .cons (.tup h ?_ ?_) (keys_rep t fun p hp => hl p (List.mem_cons_of_mem _ hp))
    · rw [List.length_map]
      exact hl (k, v) List.mem_cons_self
    · have : ∀ l : List Key, Reps K N Hh (l.map kV) (l.map keyV) := fun l => by
        induction l with
        | nil => exact .nil
        | cons x r ih => exact .cons (by cases x <;> constructor) ih
      exact this k
theorem keyI_rep : ∀ kvs : List (Key × V), Reps K N H (kvs.map fun kv => kV kv.1) (kvs.map fun p => keyV p.1)
  | [] => .nil
  | (k, v) :: r => .cons (by cases k <;> constructor) (keyI_rep r)
theorem list_ok {v : V} {u w : Val} (f : Fr H N) (r : Rep K N H v u) (e : biV .list [u] = .ok w) (g : Got K N H w Q) : rListA K [v] H Q := by
  have sq : ∀ ws, itemsOf u = some ws → w = .lst ws → rListA K [v] H Q := fun ws h1 h2 => by
    obtain ⟨p, ys, rfl, hs, hr, hl⟩ := items_ok r h1
    subst h2
    exact .inl ⟨p, ys, rfl, hs, g.lst f hl hr⟩
  cases r with
  | tup h hl r =>
    cases e
    exact sq _ rfl rfl
  | lst n h hl r =>
    cases e
    exact sq _ rfl rfl
  | scr h hl r =>
    cases e
    exact sq _ rfl rfl
  | @dK a kvs ks ws n h hk hl r =>
    cases e
    subst hk
    refine .inr (.inl ⟨_, kvs, rfl, h, g.lst f ?_ (keyI_rep kvs)⟩)
    rw [List.length_map]
    have := r.length
    rw [List.length_map] at this
    omega
  | @dT a kvs ks ws n h hk hl r =>
    cases e
    obtain ⟨hk0, hk⟩ := hk
    subst hk
    refine .inr (.inr ⟨_, kvs, rfl, .inl h, fun p bs hp hb => g.lst f ?_ (keys_rep hb hk0) p hp⟩)
    rw [List.length_map]
    have := r.length
    rw [List.length_map] at this
    omega
  | _ => cases e
theorem tuple_ok {v : V} {u w : Val} (r : Rep K N H v u) (e : biV .tuple [u] = .ok w) (g : Got K N H w Q) : rTupA K [v] H Q := by
  cases r with
  | tup h hl r =>
    cases e
    exact ⟨_, _, rfl, .inr ⟨SqT.of h, g.old (.tup h hl r) fun _ z => nomatch z⟩⟩
  | lst n h hl r =>
    cases e
    exact ⟨_, _, rfl, .inl ⟨SqL.of h, g.tup hl r⟩⟩
  | scr h hl r =>
    cases e
    exact ⟨_, _, rfl, .inl ⟨h.sq, g.tup hl r⟩⟩
  | _ => cases e
theorem isi_ok {v : V} {u : Val} {t : Ty} {b : Bool} (r : Rep K N H v u) (e : typeIs t u = some b) : ∃ T, TyX K H v T ∧ PySem.W.kitOne K T (.type (tyName t)) = some b := by
  cases r with
  | non => cases t <;> cases e <;> exact ⟨_, .base .non, kit_ty (by decide +kernel)⟩
  | bool x => cases t <;> cases e <;> exact ⟨_, .base (.bl x), kit_ty (by decide +kernel)⟩
  | int x => cases t <;> cases e <;> exact ⟨_, .base (.int x), kit_ty (by decide +kernel)⟩
  | str x => cases t <;> cases e <;> exact ⟨_, .base (.str x), kit_ty (by decide +kernel)⟩
  | tup h hl r => cases t <;> cases e <;> exact ⟨_, .base (.tup h), kit_ty (by decide +kernel)⟩
  | lst n h hl r => cases t <;> cases e <;> exact ⟨_, .base (.lst h), kit_ty (by decide +kernel)⟩
  | scr h hl r =>
    rcases h with ⟨o, h⟩ | ⟨o, its, k, h, hc, _⟩
    · cases t <;> cases e <;> exact ⟨_, .base (.frz h), kit_ty (by decide +kernel)⟩
    · cases t <;> cases e <;> exact ⟨_, .kList h hc, kit_ty (by decide +kernel)⟩
  | @dK a kvs ks ws n h hk hl r => cases t <;> cases e <;> exact ⟨_, .base (.dK h), kit_ty (by decide +kernel)⟩
  | @dT a kvs ks ws n h hk hl r => cases t <;> cases e <;> exact ⟨_, .base (.dT h), kit_ty (by decide +kernel)⟩
  | _ => cases t <;> cases e
end
end Lh
set_option Elab.async false
set_option linter.all false
set_option maxRecDepth 100000
set_option maxHeartbeats 4000000
namespace Lh
open PySem PySem.Spec PyProof.Rows L2
def rMaxD (K : PySem.W.Frag) : List V → List V → Hp → VK → Prop := fun vs zs H Q => ∃ (a : Addr) (ns : List Int), vs = [V.ref a] ∧ zs = [.int 0] ∧ SqL K H a (ns.map V.int) ∧ Q (.int (max0 ns)) H
theorem maxOf_int (x : Int) (xs : List Int) : PySem.W.maxOf x xs = maxL x xs := by
  induction xs generalizing x with
  | nil => rfl
  | cons y ys ih =>
    show PySem.W.maxOf (if decide (x < y) = true then y else x) ys = maxL (if y > x then y else x) ys
    rw [ih]
    have e : (if decide (x < y) = true then y else x) = (if y > x then y else x) := by
      by_cases h : x < y
      · rw [if_pos (decide_eq_true h), if_pos h]
      · rw [if_neg (by rw [decide_eq_false h]; exact Bool.false_ne_true), if_neg h]
    rw [e]
section
variable {X : Cx}
theorem cr_maxD (hc : X.calm = true) (hu : X.A.units + 1 < cLine) : CallRK X (.builtin "max") [Str.ofString "default"] (rMaxD X.K) := by
  intro pins s σ H xs zs us ws Q I r1 r2 h
  obtain ⟨a, ns, rfl, rfl, hs, q⟩ := h
  obtain ⟨its, rv, hl, _⟩ := I.list hs
  rw [Vals.ref1 r1]
  obtain ⟨u, rfl, ru⟩ := vals1 r2
  have hu2 : X.A.units + 1 + PySem.W.Datum.depth Int < cLine := hu
  refine PySem.W.max_list_datum_default (α := Int) (I.ok.hd hc) hl.isList (PySem.W.HoldAll.of_ints rv.ints) hu2 (fun e h' tk k => ?_) fun y ys i v h' tk e hi hv k => ?_
  · subst e
    exact ⟨.int 0, H, I.kept k, ru, q⟩
  · subst e
    obtain ⟨as, hr⟩ := hv
    have hr' : Reads h' v (.int (PySem.W.maxOf y ys)) as := hr
    cases hr' with
    | int j t =>
      refine ⟨.int (maxL y ys), H, I.kept k, ⟨t, ?_⟩, q⟩
      rw [maxOf_int]
theorem pe_maxD {e z : Expr} {p pos kp : Pos} {t tz : TE} (hc : X.calm = true) (hu : X.A.units + 1 < cLine) (hg : Gl X "max") (hm : X.mg "max" = none) (he : PE X e t) (hz : PE X z tz) (hs : starEach [e] X.env = (false, eval e X.env) :: starEach [] X.env) :
    PE X (.Call (.Name "max" p) [e] [⟨some (Str.ofString "default"), z, kp⟩] pos) (tCKw (rMaxD X.K) (tCons t tNil) (tCons tz tNil)) :=
  pe_callBK (cr_maxD hc hu) hg hm (by decide +kernel) (pa_cons he pa_nil hs) (pk_cons hz pk_nil) (by decide) (by decide) (by rw [hs]; rfl) (by rw [hs]; rfl) rfl rfl rfl
end
end Lh
set_option Elab.async false
set_option linter.all false
set_option maxRecDepth 100000
set_option maxHeartbeats 4000000
namespace Lh
open PySem PySem.Spec PyProof.Rows L2
section
variable {X : Cx}
/-- of ints -/
def rSSI (K : PySem.W.Frag) (x : V) (H1 : Hp) (Q : VK) : Prop := ∃ (l : Addr) (ns : List Int), x = V.ref l ∧ SqL K H1 l (ns.map V.int) ∧ ns.length < 64 ∧
  ∀ (ms : List Int) (p : Addr), ms.Pairwise (· < ·) → (∀ k, k ∈ ms ↔ k ∈ ns) → H1 p = none → Q (.ref p) (upd H1 p (.lst (ms.map V.int)))
/-- of pairs of ints in [0, 64) -/
def rSSP (K : PySem.W.Frag) (x : V) (H1 : Hp) (Q : VK) : Prop := ∃ (l : Addr) (ks : List (Addr × List Int)), x = V.ref l ∧ SqL K H1 l (ks.map fun p => V.ref p.1) ∧ (∀ p ∈ ks, H1 p.1 = some (.tup (p.2.map V.int))) ∧ ks.length < 64 ∧ (∀ p ∈ ks, p.2.length = 2 ∧ TS.Bd 64 p.2) ∧
  ∀ (L' : List (Addr × List Int)) (p : Addr) (H2 : Hp), (∀ q ∈ L', q ∈ ks) → (∀ q ∈ ks, q.2 ∈ L'.map (·.2)) → (L'.map (·.2)).Nodup → L'.Pairwise (fun q r => TS.code 64 q.2 ≤ TS.code 64 r.2) → Same H1 H2 → H2 p = none → Q (.ref p) (upd H2 p (.lst (L'.map fun q => V.ref q.1)))
/-- an item as it lies -/
def HIt (K : PySem.W.Frag) (H : Hp) : Itm → V → Prop
  | .inl i, x => x = .int i
  | .inr ns, x => ∃ b, x = .ref b ∧ SqT K H b (ns.map V.int)
/-- a tuple of ints and tuples of ints, as it lies -/
def HN (K : PySem.W.Frag) (H : Hp) (b : Addr) (k : List Itm) : Prop := ∃ xs, SqT K H b xs ∧ Paired (HIt K H) k xs
/-- of tuples of ints and tuples of ints, all of one shape -/
def rSSN (K : PySem.W.Frag) (x : V) (H1 : Hp) (Q : VK) : Prop := ∃ (l : Addr) (ks : NL) (sh : List Bool), x = V.ref l ∧ (SqL K H1 l (ks.map fun p => V.ref p.1) ∨ SqT K H1 l (ks.map fun p => V.ref p.1)) ∧ (∀ p ∈ ks, HN K H1 p.1 p.2) ∧ (∀ p ∈ ks, p.2.map Sum.isLeft = sh) ∧ sh ≠ [] ∧ ks.length < 64 ∧
  ∀ (M : NL) (p : Addr), (∀ q ∈ M, q ∈ ks) → (∀ q ∈ ks, q.2 ∈ M.map (·.2)) → (M.map (·.2)).Nodup → M.Pairwise (fun q r => keyLt r.2 q.2 = false) → H1 p = none → Q (.ref p) (upd H1 p (.lst (M.map fun q => V.ref q.1)))
theorem its_of {pins : List (Addr × Obj)} {σ : L2.St} {H : Hp} {s : Shared} (I : Inv X pins σ H s) : ∀ {k : List Itm} {xs : List V} {us : List Value}, Paired (HIt X.K H) k xs → Vals xs us → Its X.prog X.w s.heap k us
  | _, _, _, .nil, .nil => .nil
  | .inl i :: _, _, _, .cons a t, .cons r t' => by
    have a' : _ = V.int i := a
    rw [a'] at r
    exact .cons r (its_of I t t')
  | .inr ns :: _, _, _, .cons a t, .cons r t' => by
    obtain ⟨b, e, hb⟩ := a
    rw [e] at r
    have r' : _ = Value.ref b := r
    exact .cons ⟨b, r', I.isT hb⟩ (its_of I t t')
theorem isN_of {pins : List (Addr × Obj)} {σ : L2.St} {H : Hp} {s : Shared} {b : Addr} {k : List Itm} (I : Inv X pins σ H s) (h : HN X.K H b k) : IsN X.prog X.w (k.map Sum.isLeft) s.heap k b := by
  obtain ⟨xs, hq, hp⟩ := h
  obtain ⟨its, r, ⟨o, ho, hc, n, hd⟩, _⟩ := I.tuple hq
  exact ⟨⟨o, its.toArray, n, ho, hc, hd, its_of I hp (by simpa using r)⟩, rfl⟩
theorem refsN_of_vals : ∀ {ks : NL} {us : List Value}, Vals (ks.map fun p => V.ref p.1) us → us = ks.map fun p => Value.ref p.1
  | [], _, .nil => rfl
  | p :: ks, _, .cons r t => by
    cases r
    rw [refsN_of_vals t]
    rfl
theorem valsN_of_refs : ∀ ks : NL, Vals (ks.map fun p => V.ref p.1) (ks.map fun p => Value.ref p.1)
  | [] => .nil
  | p :: ks => .cons rfl (valsN_of_refs ks)
def tSortedSet (K : PySem.W.Frag) (ta : TE) : TE := fun σ H Q => ta σ H fun x H1 => rSSI K x H1 Q ∨ rSSP K x H1 Q
def tSortedSetN (K : PySem.W.Frag) (ta : TE) : TE := fun σ H Q => ta σ H fun x H1 => rSSN K x H1 Q
theorem ssi_end {pins : List (Addr × Obj)} {σ : L2.St} {H1 : Hp} {s1 : Shared} {ns : List Int} {Q : VK} {h' : Heap} {tk c : Nat} (hc : X.calm = true) (I1 : Inv X pins σ H1 s1) (R : SetR X.w h' s1.heap.objs.size (fun j => decide (j ∈ ns)) c) (hle : c ≤ ns.length) (hk : ∀ b o, s1.heap.get? b = some o → h'.get? b = some o) (h1 : ns.length < 64)
    (q1 : ∀ (ms : List Int) (p : Addr), ms.Pairwise (· < ·) → (∀ k, k ∈ ms ↔ k ∈ ns) → H1 p = none → Q (.ref p) (upd H1 p (.lst (ms.map V.int)))) :
    wpAny (model X.prog X.w) X.A (call (.builtin "sorted") [.ref s1.heap.objs.size]) (EP X pins σ Q) X.xe { s1 with heap := h', toks := tk } := by
  have I2 : Inv X pins σ H1 { s1 with heap := h', toks := tk } := I1.kept fun b o e => hk b o e
  refine sorted_set (s := { s1 with heap := h', toks := tk }) R (I2.ok.hd hc) (by omega) fun s' p out c ms k g o hp hg hi hs hm hl => ?_
  have hlen : (ms.map V.int).length ≤ sizeLine := by rw [List.length_map, hl, sizeLine_eq]; omega
  have hn : H1 p = none := I2.hok.fresh hp
  have J : Inv X pins σ (upd H1 p (.lst (ms.map V.int))) { ({ s1 with heap := h', toks := tk } : Shared) with heap := s'.heap, gens := s'.gens, drawn := s'.drawn, toks := s'.toks } :=
    I2.call (ch := []) (Un.laid k hp hn) (I2.hok.laid k hp ⟨hlen, out.toList, c, vals_of_ints hi, hg⟩) (by rw [g]; exact I2.bare) (fun _ z => nomatch z)
  have e : s' = { ({ s1 with heap := h', toks := tk } : Shared) with heap := s'.heap, gens := s'.gens, drawn := s'.drawn, toks := s'.toks } := by
    cases s'
    cases s1
    cases o
    rfl
  rw [e]
  exact ⟨.ref p, _, J, rfl, q1 ms p hs (fun k => by rw [hm k, decide_eq_true_eq]) hn⟩
theorem ssn_end {pins : List (Addr × Obj)} {σ : L2.St} {H1 : Hp} {s1 : Shared} {sh : List Bool} {ks L : NL} {es : Array (Int × Value)} {ep : Nat} {t : SetTable} {Q : VK} {h' : Heap} {tk : Nat} (hc : X.calm = true) (hu : X.A.units + 20 < cLine) (hne : sh ≠ []) (I1 : Inv X pins σ H1 s1)
    (R : NS X.prog X.w sh h' s1.heap.objs.size L es ep t) (g0 : Gat ks ks.length L) (hk : ∀ b o, s1.heap.get? b = some o → h'.get? b = some o)
    (q1 : ∀ (M : NL) (p : Addr), (∀ q ∈ M, q ∈ ks) → (∀ q ∈ ks, q.2 ∈ M.map (·.2)) → (M.map (·.2)).Nodup → M.Pairwise (fun q r => keyLt r.2 q.2 = false) → H1 p = none → Q (.ref p) (upd H1 p (.lst (M.map fun q => V.ref q.1)))) :
    wpAny (model X.prog X.w) X.A (call (.builtin "sorted") [.ref s1.heap.objs.size]) (EP X pins σ Q) X.xe { s1 with heap := h', toks := tk } := by
  have I2 : Inv X pins σ H1 { s1 with heap := h', toks := tk } := I1.kept fun b o e => hk b o e
  refine n_sorted (s := { s1 with heap := h', toks := tk }) R (I2.ok.hd hc) hu hne fun s' p out c M k g o hp hg hout pm pw => ?_
  have hlen : (M.map fun q => V.ref q.1).length ≤ sizeLine := by
    have := R.few
    rw [List.length_map, pm.length_eq, sizeLine_eq]
    omega
  have hn : H1 p = none := I2.hok.fresh hp
  have hv : Vals (M.map fun q => V.ref q.1) out.toList := by
    rw [hout]
    exact valsN_of_refs M
  have J : Inv X pins σ (upd H1 p (.lst (M.map fun q => V.ref q.1))) { ({ s1 with heap := h', toks := tk } : Shared) with heap := s'.heap, gens := s'.gens, drawn := s'.drawn, toks := s'.toks } :=
    I2.call (ch := []) (Un.laid k hp hn) (I2.hok.laid k hp ⟨hlen, out.toList, c, hv, hg⟩) (by rw [g]; exact I2.bare) (fun _ z => nomatch z)
  have e : s' = { ({ s1 with heap := h', toks := tk } : Shared) with heap := s'.heap, gens := s'.gens, drawn := s'.drawn, toks := s'.toks } := by
    cases s'
    cases s1
    cases o
    rfl
  rw [e]
  refine ⟨.ref p, _, J, rfl, q1 M p (fun q hq => List.mem_of_mem_take (g0.sub q (pm.mem_iff.mp hq))) (fun q hq => ?_) ((pm.map (·.2)).nodup_iff.mpr R.uniq) pw hn⟩
  rw [(pm.map (·.2)).mem_iff]
  exact g0.all q (by rw [List.take_length]; exact hq)
theorem pe_sortedSet {a : Expr} {ta : TE} {p p2 q pos : Pos} (hc : X.calm = true) (hu : X.A.units + 64 < cLine) (hg : Gl X "sorted") (hm : X.mg "sorted" = none) (hg2 : Gl X "set") (hm2 : X.mg "set" = none) (ha : PE X a ta)
    (na : starEach [a] X.env = (false, eval a X.env) :: starEach [] X.env) : PE X (.Call (.Name "sorted" p) [.Call (.Name "set" p2) [a] [] q] [] pos) (tSortedSet X.K ta) := by
  refine ⟨fun pins s σ H Q I h => ?_⟩
  refine Call_ (ld_blt I hg hm PyProof.Rows.boot_sorted ?_)
  refine PyProof.Rows.callWith_builtin1 (PyProof.Rows.args_cons ?_ rfl) rfl rfl
  refine Call_ (ld_blt I hg2 hm2 PyProof.Rows.boot_set ?_)
  refine PyProof.Rows.callWith_type1 (PyProof.Rows.args_cons (thn (ha.run pins s σ H _ I h) fun v s1 ⟨x, H1, I1, r1, q1⟩ => PyProof.Rows.args_nil ?_) na) na rfl
  rcases q1 with ⟨l, ns, rfl, hq, h1, q1⟩ | ⟨l, ks, rfl, hq, hk, h1, hb, q1⟩
  · cases r1
    obtain ⟨its, r, pl, hz⟩ := I1.list hq
    refine set_lst (P := X.prog) (w := X.w) ns (I1.ok.hd hc) pl.isList (by simpa using r.ints) (by unfold scanBound; omega) fun h' tk c R hle hk => PyProof.Rows.args_nil ?_
    exact ssi_end hc I1 R hle hk h1 q1
  · cases r1
    refine thn (cr_setOfT hc hu pins s1 σ H1 [.ref l] [.ref l] (fun y H2 => rSortedT X.K X.prog X.w [y] H2 Q) I1 (.cons rfl .nil) ⟨l, ks, rfl, hq, fun p hp => SqT.of (hk p hp), h1, fun a L ha hsub hall => ?_⟩) fun v2 s2 ⟨x2, H2, I2, r2, q2⟩ => PyProof.Rows.args_nil ?_
    · have sm : Same H1 (upd H1 a (SetTO X.prog X.w a L)) := same_upd ha
      refine ⟨a, L, 2, 64, rfl, upd_same, fun p hp => ?_, by decide, fun p hp => hb p (hsub p hp), fun L' p perm nd h64 pw hp => q1 L' p _ (fun q hq => hsub q (perm.mem_iff.mp hq)) (fun q hq => (perm.map (·.2)).mem_iff.mpr (hall q hq)) nd pw sm hp⟩
      exact SqT.of (sm _ _ (hk p (hsub p hp)))
    · exact cr_sortedT hc pins s2 σ H2 [x2] [v2] Q I2 (.cons r2 .nil) q2
theorem pe_sortedSetN {a : Expr} {ta : TE} {p p2 q pos : Pos} (hc : X.calm = true) (hu : X.A.units + 64 < cLine) (hg : Gl X "sorted") (hm : X.mg "sorted" = none) (hg2 : Gl X "set") (hm2 : X.mg "set" = none) (ha : PE X a ta)
    (na : starEach [a] X.env = (false, eval a X.env) :: starEach [] X.env) : PE X (.Call (.Name "sorted" p) [.Call (.Name "set" p2) [a] [] q] [] pos) (tSortedSetN X.K ta) := by
  refine ⟨fun pins s σ H Q I h => ?_⟩
  refine Call_ (ld_blt I hg hm PyProof.Rows.boot_sorted ?_)
  refine PyProof.Rows.callWith_builtin1 (PyProof.Rows.args_cons ?_ rfl) rfl rfl
  refine Call_ (ld_blt I hg2 hm2 PyProof.Rows.boot_set ?_)
  refine PyProof.Rows.callWith_type1 (PyProof.Rows.args_cons (thn (ha.run pins s σ H _ I h) fun v s1 ⟨x, H1, I1, r1, q1⟩ => PyProof.Rows.args_nil ?_) na) na rfl
  obtain ⟨l, ks, sh, rfl, hq, hk, hs, hne, h1, q1⟩ := q1
  cases r1
  have hu' : X.A.units + 20 < cLine := by omega
  have each : ∀ p ∈ ks, IsN X.prog X.w sh s1.heap p.2 p.1 := fun p hp => by
    have := isN_of I1 (hk p hp)
    rwa [hs p hp] at this
  rcases hq with hq | hq
  · obtain ⟨its, r, pl, hz⟩ := I1.list hq
    refine n_set_list (P := X.prog) (w := X.w) ks (I1.ok.hd hc) pl.isList (by simpa using refsN_of_vals r) each h1 (by omega) fun h' tk L es ep t R g hk' => PyProof.Rows.args_nil ?_
    exact ssn_end hc hu' hne I1 R g hk' q1
  · obtain ⟨its, r, hT, hz⟩ := I1.tuple hq
    refine n_set_tuple (P := X.prog) (w := X.w) ks (I1.ok.hd hc) hT (by simpa using refsN_of_vals r) each h1 (by omega) fun h' tk L es ep t R g hk' => PyProof.Rows.args_nil ?_
    exact ssn_end hc hu' hne I1 R g hk' q1
end
end Lh
set_option Elab.async false
set_option linter.all false
set_option maxRecDepth 100000
set_option maxHeartbeats 4000000
namespace Lh
open PySem L2
def nubZ : List Int → List Int
  | [] => []
  | x :: r => if x ∈ nubZ r then nubZ r else x :: nubZ r
theorem nubZ_mem {k : Int} : ∀ {ns : List Int}, k ∈ nubZ ns ↔ k ∈ ns
  | [] => Iff.rfl
  | x :: r => by
    unfold nubZ
    split
    · rename_i h
      rw [nubZ_mem, List.mem_cons]
      refine ⟨.inr, fun z => z.elim (fun e => ?_) id⟩
      rw [e]
      exact nubZ_mem.mp h
    · rw [List.mem_cons, List.mem_cons, nubZ_mem]
theorem nubZ_nodup : ∀ {ns : List Int}, (nubZ ns).Nodup
  | [] => List.nodup_nil
  | x :: r => by
    unfold nubZ
    split
    · exact nubZ_nodup
    · rename_i h
      exact List.nodup_cons.mpr ⟨h, nubZ_nodup⟩
theorem nubV_ints : ∀ ns : List Int, nubV (ns.map Val.int) = (nubZ ns).map Val.int
  | [] => rfl
  | x :: r => by
    show (if (nubV (r.map Val.int)).any (fun y => y.eqv (Val.int x)) then nubV (r.map Val.int) else Val.int x :: nubV (r.map Val.int)) = _
    rw [nubV_ints r]
    have e : ((nubZ r).map Val.int).any (fun y => y.eqv (Val.int x)) = decide (x ∈ nubZ r) := by
      rw [List.any_map, Bool.eq_iff_iff, List.any_eq_true, decide_eq_true_eq]
      constructor
      · rintro ⟨y, hy, q⟩
        have q' : (decide (y = x)) = true := q
        rw [← of_decide_eq_true q']
        exact hy
      · intro h
        exact ⟨x, h, show decide (x = x) = true from decide_eq_true rfl⟩
    rw [e]
    by_cases q : x ∈ nubZ r
    · rw [if_pos (decide_eq_true q), nubZ, if_pos q]
    · rw [if_neg (by rw [decide_eq_false q]; exact Bool.false_ne_true), nubZ, if_neg q]
      rfl
/-- strictly rising lists of the same things -/
theorem uniqS {α : Type} {lt : α → α → Prop} (asym : ∀ a b, lt a b → ¬ lt b a) : ∀ {l m : List α}, l.Pairwise lt → m.Pairwise lt → (∀ x, x ∈ l ↔ x ∈ m) → l = m
  | [], [], _, _, _ => rfl
  | [], b :: m, _, _, h => absurd ((h b).mpr List.mem_cons_self) List.not_mem_nil
  | a :: l, [], _, _, h => absurd ((h a).mp List.mem_cons_self) List.not_mem_nil
  | a :: l, b :: m, hl, hm, h => by
    obtain ⟨l1, l2⟩ := List.pairwise_cons.mp hl
    obtain ⟨m1, m2⟩ := List.pairwise_cons.mp hm
    have e : a = b := by
      rcases List.mem_cons.mp ((h a).mp List.mem_cons_self) with z | z
      · exact z
      · rcases List.mem_cons.mp ((h b).mpr List.mem_cons_self) with y | y
        · exact y.symm
        · exact absurd (l1 b y) (asym _ _ (m1 a z))
    subst e
    rw [uniqS asym l2 m2 fun x => ?_]
    constructor
    · intro hx
      rcases List.mem_cons.mp ((h x).mp (List.mem_cons_of_mem _ hx)) with z | z
      · subst z
        exact absurd (l1 x hx) (asym _ _ (l1 x hx))
      · exact z
    · intro hx
      rcases List.mem_cons.mp ((h x).mpr (List.mem_cons_of_mem _ hx)) with z | z
      · subst z
        exact absurd (m1 x hx) (asym _ _ (m1 x hx))
      · exact z
/-- rising lists, one a reordering of the other -/
theorem uniqW {α : Type} {lt : α → α → Prop} (tri : ∀ a b, ¬ lt a b → ¬ lt b a → a = b) : ∀ {l m : List α}, l.Pairwise (fun a b => ¬ lt b a) → m.Pairwise (fun a b => ¬ lt b a) → l.Perm m → l = m
  | [], m, _, _, h => (List.nil_perm.mp h).symm
  | a :: l, [], _, _, h => absurd (h.mem_iff.mp (List.mem_cons_self (a := a))) List.not_mem_nil
  | a :: l, b :: m, hl, hm, h => by
    obtain ⟨l1, l2⟩ := List.pairwise_cons.mp hl
    obtain ⟨m1, m2⟩ := List.pairwise_cons.mp hm
    have e : a = b := by
      rcases List.mem_cons.mp (h.mem_iff.mp (List.mem_cons_self (a := a))) with z | z
      · exact z
      · rcases List.mem_cons.mp (h.mem_iff.mpr (List.mem_cons_self (a := b))) with y | y
        · exact y.symm
        · exact tri a b (m1 a z) (l1 b y)
    subst e
    rw [uniqW tri l2 m2 h.cons_inv]
abbrev P2i := Int × Int
def val2 (p : P2i) : Val := .tup [.int p.1, .int p.2]
def ltP2 (p q : P2i) : Prop := p.1 < q.1 ∨ (p.1 = q.1 ∧ p.2 < q.2)
instance (p q : P2i) : Decidable (ltP2 p q) := inferInstanceAs (Decidable (_ ∨ _))
theorem ltP2_asym (a b : P2i) (h : ltP2 a b) : ¬ ltP2 b a := by
  unfold ltP2 at *
  omega
theorem ltP2_tri (a b : P2i) (h1 : ¬ ltP2 a b) (h2 : ¬ ltP2 b a) : a = b := by
  unfold ltP2 at *
  have e1 : a.1 = b.1 := by omega
  have e2 : a.2 = b.2 := by omega
  exact Prod.ext e1 e2
theorem ltP2_tr {a b c : P2i} (h1 : ltP2 a b) (h2 : ltP2 b c) : ltP2 a c := by
  unfold ltP2 at *
  omega
theorem lt_val2 (p q : P2i) : valLt (val2 p) (val2 q) = decide (ltP2 p q) := by
  show (if p.1 = q.1 then (if p.2 = q.2 then false else decide (p.2 < q.2)) else decide (p.1 < q.1)) = _
  unfold ltP2
  by_cases h : p.1 = q.1
  · rw [if_pos h]
    by_cases h2 : p.2 = q.2
    · rw [if_pos h2]
      exact (decide_eq_false (by omega)).symm
    · rw [if_neg h2]
      exact decide_eq_decide.mpr (by omega)
  · rw [if_neg h]
    exact decide_eq_decide.mpr (by omega)
theorem eqv_val2 (p q : P2i) : (val2 p).eqv (val2 q) = decide (p = q) := by
  show (decide (p.1 = q.1) && (decide (p.2 = q.2) && true)) = _
  rw [Bool.and_true, ← Bool.decide_and]
  exact decide_eq_decide.mpr ⟨fun h => Prod.ext h.1 h.2, fun h => by rw [h]; exact ⟨rfl, rfl⟩⟩
def insP (x : P2i) : List P2i → List P2i
  | [] => [x]
  | y :: r => if ltP2 x y then x :: y :: r else y :: insP x r
def sortP : List P2i → List P2i
  | [] => []
  | x :: r => insP x (sortP r)
def nubP : List P2i → List P2i
  | [] => []
  | x :: r => if x ∈ nubP r then nubP r else x :: nubP r
theorem insV_val2 (x : P2i) : ∀ r : List P2i, insV (val2 x) (r.map val2) = (insP x r).map val2
  | [] => rfl
  | y :: r => by
    show (if valLt (val2 x) (val2 y) = true then _ else _) = _
    rw [lt_val2]
    unfold insP
    by_cases h : ltP2 x y
    · rw [if_pos (decide_eq_true h), if_pos h]
      rfl
    · rw [if_neg (by rw [decide_eq_false h]; exact Bool.false_ne_true), if_neg h, insV_val2 x r]
      rfl
theorem sortV_val2 : ∀ r : List P2i, sortV (r.map val2) = (sortP r).map val2
  | [] => rfl
  | y :: r => by
    show insV (val2 y) (sortV (r.map val2)) = _
    rw [sortV_val2 r, insV_val2]
    rfl
theorem nubV_val2 : ∀ l : List P2i, nubV (l.map val2) = (nubP l).map val2
  | [] => rfl
  | x :: r => by
    show (if (nubV (r.map val2)).any (fun y => y.eqv (val2 x)) then nubV (r.map val2) else val2 x :: nubV (r.map val2)) = _
    rw [nubV_val2 r]
    have e : ((nubP r).map val2).any (fun y => y.eqv (val2 x)) = decide (x ∈ nubP r) := by
      rw [List.any_map, Bool.eq_iff_iff, List.any_eq_true, decide_eq_true_eq]
      constructor
      · rintro ⟨y, hy, q⟩
        have q' : (val2 y).eqv (val2 x) = true := q
        rw [eqv_val2] at q'
        rw [← of_decide_eq_true q']
        exact hy
      · intro h
        exact ⟨x, h, show (val2 x).eqv (val2 x) = true by rw [eqv_val2]; exact decide_eq_true rfl⟩
    rw [e]
    by_cases q : x ∈ nubP r
    · rw [if_pos (decide_eq_true q), nubP, if_pos q]
    · rw [if_neg (by rw [decide_eq_false q]; exact Bool.false_ne_true), nubP, if_neg q]
      rfl
theorem nubP_mem {k : P2i} : ∀ {l : List P2i}, k ∈ nubP l ↔ k ∈ l
  | [] => Iff.rfl
  | x :: r => by
    unfold nubP
    split
    · rename_i h
      rw [nubP_mem, List.mem_cons]
      refine ⟨.inr, fun z => z.elim (fun e => ?_) id⟩
      rw [e]
      exact nubP_mem.mp h
    · rw [List.mem_cons, List.mem_cons, nubP_mem]
theorem nubP_nodup : ∀ {l : List P2i}, (nubP l).Nodup
  | [] => List.nodup_nil
  | x :: r => by
    unfold nubP
    split
    · exact nubP_nodup
    · rename_i h
      exact List.nodup_cons.mpr ⟨h, nubP_nodup⟩
theorem insP_perm (x : P2i) : ∀ r : List P2i, (insP x r).Perm (x :: r)
  | [] => .refl _
  | y :: r => by
    unfold insP
    split
    · exact .refl _
    · exact ((insP_perm x r).cons y).trans (.swap x y r)
theorem sortP_perm : ∀ r : List P2i, (sortP r).Perm r
  | [] => .refl _
  | y :: r => (insP_perm y (sortP r)).trans ((sortP_perm r).cons y)
theorem insP_sorted (x : P2i) : ∀ {r : List P2i}, r.Pairwise (fun a b => ¬ ltP2 b a) → (insP x r).Pairwise fun a b => ¬ ltP2 b a
  | [], _ => List.pairwise_cons.mpr ⟨fun _ h => absurd h List.not_mem_nil, .nil⟩
  | y :: r, h => by
    obtain ⟨h1, h2⟩ := List.pairwise_cons.mp h
    unfold insP
    split
    · rename_i q
      refine List.pairwise_cons.mpr ⟨fun z hz => ?_, h⟩
      rcases List.mem_cons.mp hz with e | e
      · rw [e]
        exact ltP2_asym _ _ q
      · exact fun w => h1 z e (ltP2_tr w q)
    · rename_i q
      refine List.pairwise_cons.mpr ⟨fun z hz => ?_, insP_sorted x h2⟩
      rcases List.mem_cons.mp ((insP_perm x r).mem_iff.mp hz) with e | e
      · rw [e]
        exact q
      · exact h1 z e
theorem sortP_sorted : ∀ r : List P2i, (sortP r).Pairwise fun a b => ¬ ltP2 b a
  | [] => .nil
  | y :: r => insP_sorted y (sortP_sorted r)
theorem sortP_strict {l : List P2i} (nd : l.Nodup) : (sortP l).Pairwise ltP2 := by
  have nd' : (sortP l).Nodup := (sortP_perm l).nodup_iff.mpr nd
  exact (List.pairwise_and_iff.mpr ⟨sortP_sorted l, nd'⟩).imp fun {a b} h => by
    apply Classical.byContradiction
    intro z
    exact h.2 (ltP2_tri a b z h.1)
theorem sortP_one {l M : List P2i} (h : M.Pairwise ltP2) (hm : ∀ x, x ∈ M ↔ x ∈ l) : sortP (nubP l) = M :=
  uniqS ltP2_asym (sortP_strict nubP_nodup) h fun x => by rw [(sortP_perm _).mem_iff, nubP_mem, hm x]
theorem sortI_one {ns ms : List Int} (h : ms.Pairwise (· < ·)) (hm : ∀ k, k ∈ ms ↔ k ∈ ns) : sortI (nubZ ns) = ms := by
  refine (sort_one ((List.perm_ext_iff_of_nodup (h.imp fun {a b} q => Int.ne_of_lt q) nubZ_nodup).mpr fun k => ?_) (h.imp fun {a b} q => Int.le_of_lt q)).symm
  rw [hm k, nubZ_mem]
theorem pairs_of : ∀ {ws : List Val}, ws.all pairI = true → ∃ l : List P2i, ws = l.map val2
  | [], _ => ⟨[], rfl⟩
  | w :: ws, h => by
    rw [List.all_cons, Bool.and_eq_true] at h
    obtain ⟨l, e⟩ := pairs_of h.2
    have h1 := h.1
    unfold pairI at h1
    split at h1
    · exact ⟨(_, _) :: l, by rw [e]; rfl⟩
    · cases h1
def small (p : P2i) : Prop := 0 ≤ p.1 ∧ p.1 < 64 ∧ 0 ≤ p.2 ∧ p.2 < 64
theorem pairs64_of : ∀ {ws : List Val}, ws.all pair64 = true → ∃ l : List P2i, ws = l.map val2 ∧ ∀ p, p ∈ l → small p
  | [], _ => ⟨[], rfl, fun p h => absurd h List.not_mem_nil⟩
  | w :: ws, h => by
    rw [List.all_cons, Bool.and_eq_true] at h
    obtain ⟨l, e, hl⟩ := pairs64_of h.2
    have h1 := h.1
    unfold pair64 at h1
    split at h1
    · rename_i a b
      simp only [Bool.and_eq_true, decide_eq_true_eq] at h1
      refine ⟨(a, b) :: l, by rw [e]; rfl, fun p hp => ?_⟩
      rcases List.mem_cons.mp hp with z | z
      · rw [z]
        exact h1
      · exact hl p z
    · cases h1
section
variable {K : PySem.W.Frag} {N : Addr → Prop} {H : Hp}
theorem rep_val2 {v : V} {p : P2i} (r : Rep K N H v (val2 p)) : ∃ a, v = .ref a ∧ H a = some (.tup [.int p.1, .int p.2]) := by
  cases r with
  | @tup a xs _ h hl r =>
    cases r with
    | cons r1 r2 =>
      cases r1
      cases r2 with
      | cons r3 r4 =>
        cases r3
        cases r4
        exact ⟨a, rfl, h⟩
theorem rep_of_val2 {a : Addr} {p : P2i} (h : H a = some (.tup [.int p.1, .int p.2])) : Rep K N H (.ref a) (val2 p) := .tup h (Nat.le_of_ble_eq_true rfl) (.cons (.int _) (.cons (.int _) .nil))
theorem reps_val2 : ∀ {l : List P2i} {xs : List V}, Reps K N H xs (l.map val2) → ∃ as : List Addr, xs = as.map V.ref ∧ as.length = l.length ∧ ∀ p, p ∈ as.zip l → H p.1 = some (.tup [.int p.2.1, .int p.2.2])
  | [], _, .nil => ⟨[], rfl, rfl, fun p h => absurd h List.not_mem_nil⟩
  | p :: l, _, .cons r t => by
    obtain ⟨a, rfl, h⟩ := rep_val2 r
    obtain ⟨as, rfl, h2, h3⟩ := reps_val2 t
    refine ⟨a :: as, rfl, congrArg (· + 1) h2, fun q hq => ?_⟩
    rcases List.mem_cons.mp hq with z | z
    · rw [z]
      exact h
    · exact h3 q z
variable {Q : VK}
theorem zip_fst {α β : Type} : ∀ {as : List α} {l : List β}, as.length = l.length → (as.zip l).map (·.1) = as
  | [], [], _ => rfl
  | [], _ :: _, h => nomatch h
  | _ :: _, [], h => nomatch h
  | a :: as, b :: l, h => congrArg (a :: ·) (zip_fst (Nat.succ.inj h))
theorem zip_snd {α β : Type} : ∀ {as : List α} {l : List β}, as.length = l.length → (as.zip l).map (·.2) = l
  | [], [], _ => rfl
  | [], _ :: _, h => nomatch h
  | _ :: _, [], h => nomatch h
  | a :: as, b :: l, h => congrArg (b :: ·) (zip_snd (Nat.succ.inj h))
def pairAt (H : Hp) (x : V) : P2i := match x with
  | .ref t => (match H t with
    | some (.tup [.int i, .int j]) => (i, j)
    | _ => (0, 0))
  | _ => (0, 0)
theorem pairAt_eq {a : Addr} {p : P2i} (h : H a = some (.tup [.int p.1, .int p.2])) : pairAt H (.ref a) = p := by
  show (match H a with
    | some (.tup [.int i, .int j]) => ((i, j) : P2i)
    | _ => (0, 0)) = p
  rw [h]
theorem reps_of_at : ∀ {ys : List V}, (∀ y, y ∈ ys → ∃ t, y = .ref t ∧ H t = some (.tup [.int (pairAt H y).1, .int (pairAt H y).2])) → Reps K N H ys ((ys.map (pairAt H)).map val2)
  | [], _ => .nil
  | y :: ys, h => by
    obtain ⟨t, e, ht⟩ := h y List.mem_cons_self
    refine .cons ?_ (reps_of_at fun z hz => h z (List.mem_cons_of_mem _ hz))
    have := rep_of_val2 (K := K) (N := N) ht
    rw [← e] at this
    exact this
theorem sortedP_ok {v : V} {ws : List Val} {w : Val} (f : Fr H N) (r : Rep K N H v (.lst ws)) (hp : ws.all pairI = true) (hw : w = .lst (sortV ws)) (g : Got K N H w Q) : rSortedPO K [v] H Q := by
  obtain ⟨l, rfl⟩ := pairs_of hp
  subst hw
  cases r with
  | @lst a xs _ n h hl r =>
    obtain ⟨as, rfl, h2, h3⟩ := reps_val2 r
    have each : ∀ x, x ∈ as.map V.ref → ∃ t, x = .ref t ∧ H t = some (.tup [.int (pairAt H x).1, .int (pairAt H x).2]) := fun x hx => by
      obtain ⟨t, ht, rfl⟩ := List.mem_map.mp hx
      rw [← zip_fst h2] at ht
      obtain ⟨q, hq, rfl⟩ := List.mem_map.mp ht
      have := h3 q hq
      exact ⟨q.1, rfl, by rw [pairAt_eq this]; exact this⟩
    have hkl : (as.map V.ref).map (pairAt H) = l := by
      have e1 : (as.map V.ref).map (pairAt H) = ((as.zip l).map (·.1)).map fun a => pairAt H (.ref a) := by rw [zip_fst h2, List.map_map]; rfl
      rw [e1, List.map_map]
      have e2 : (as.zip l).map ((fun a => pairAt H (.ref a)) ∘ (·.1)) = (as.zip l).map (·.2) := List.map_congr_left fun q hq => pairAt_eq (h3 q hq)
      rw [e2, zip_snd h2]
    refine ⟨a, as.map V.ref, pairAt H, rfl, SqL.of h, each, fun ys p hs hst hn => ?_⟩
    have hy : ∀ y, y ∈ ys → ∃ t, y = .ref t ∧ H t = some (.tup [.int (pairAt H y).1, .int (pairAt H y).2]) := fun y hy => each y (hst.perm.mem_iff.mp hy)
    have e3 : sortP l = ys.map (pairAt H) := by
      refine uniqW ltP2_tri (sortP_sorted l) ?_ ?_
      · refine List.pairwise_map.mpr (hs.imp fun {x y} q => ?_)
        intro z
        have : SrtO.lexB (pairAt H y) (pairAt H x) = true := SrtO.lexB_iff.mpr z
        have q' : SrtO.lexB (pairAt H y) (pairAt H x) = false := q
        rw [this] at q'
        cases q'
      · have := hst.perm.map (pairAt H)
        rw [hkl] at this
        exact (sortP_perm l).trans this.symm
    rw [sortV_val2, e3] at g
    refine g.lst f ?_ (reps_of_at hy) p hn
    rw [List.length_map, List.length_map, hst.perm.length_eq, List.length_map, h2]
    rwa [List.length_map] at hl
theorem sortedSet_ok {v : V} {u w : Val} (f : Fr H N) (r : Rep K N H v u) (e : biV .sortedSet [u] = .ok w) (g : Got K N H w Q) : rSSI K v H Q ∨ rSSP K v H Q := by
  cases r with
  | @lst a xs ws n h hl r =>
    have e0 : (match intsOf ws with
      | some _ => if ws.length < 64 then Res.ok (Val.lst (sortV (nubV ws))) else .stuck
      | none => if ws.all pair64 then (if ws.length < 64 then Res.ok (Val.lst (sortV (nubV ws))) else .stuck) else .stuck) = .ok w := e
    split at e0
    · rename_i ns e2
      split at e0
      · rename_i hlt
        cases e0
        have e3 := intsOf_eq e2
        subst e3
        have e4 := r.ints
        subst e4
        refine .inl ⟨a, ns, rfl, SqL.of h, by rwa [List.length_map] at hlt, fun ms p hs hm hn => ?_⟩
        rw [nubV_ints, sortV_int, sortI_one hs hm] at g
        refine g.lst f ?_ (reps_ints _) p hn
        have nd : ms.Nodup := hs.imp fun {a b} q => Int.ne_of_lt q
        have h1 : ms.length ≤ ns.length := nd.length_le_of_subset fun k hk => (hm k).mp hk
        rw [List.length_map] at hl ⊢
        omega
      · exact nomatch e0
    · split at e0
      · rename_i hp
        split at e0
        · rename_i hlt
          cases e0
          obtain ⟨l, rfl, hsm⟩ := pairs64_of hp
          obtain ⟨as, rfl, h2, h3⟩ := reps_val2 r
          obtain ⟨ks, hks⟩ : ∃ ks : List (Addr × List Int), ks = (as.zip l).map fun q => (q.1, [q.2.1, q.2.2]) := ⟨_, rfl⟩
          have kl : ∀ q, q ∈ ks → ∃ p : P2i, p ∈ l ∧ q.2 = [p.1, p.2] ∧ H q.1 = some (.tup [.int p.1, .int p.2]) := fun q hq => by
            rw [hks] at hq
            obtain ⟨z, hz, rfl⟩ := List.mem_map.mp hq
            refine ⟨z.2, ?_, rfl, h3 z hz⟩
            have : z.2 ∈ (as.zip l).map (·.2) := List.mem_map.mpr ⟨z, hz, rfl⟩
            rwa [zip_snd h2] at this
          have lk : ∀ p, p ∈ l → ∃ q, q ∈ ks ∧ q.2 = [p.1, p.2] := fun p hp => by
            rw [← zip_snd h2] at hp
            obtain ⟨z, hz, rfl⟩ := List.mem_map.mp hp
            exact ⟨(z.1, [z.2.1, z.2.2]), by rw [hks]; exact List.mem_map.mpr ⟨z, hz, rfl⟩, rfl⟩
          refine .inr ⟨a, ks, rfl, ?_, fun q hq => ?_, ?_, fun q hq => ?_, fun L' p H2 hsub hall nd pw sm hn => ?_⟩
          · have ex : ks.map (fun p => V.ref p.1) = as.map V.ref := by
              rw [hks, List.map_map]
              have : (as.zip l).map ((fun p : Addr × List Int => V.ref p.1) ∘ fun q => (q.1, [q.2.1, q.2.2])) = ((as.zip l).map (·.1)).map V.ref := by rw [List.map_map]; rfl
              rw [this, zip_fst h2]
            rw [ex]
            exact SqL.of h
          · obtain ⟨p, _, e1, e2⟩ := kl q hq
            rw [e1]
            exact e2
          · rw [hks, List.length_map, List.length_zip, h2, Nat.min_self]
            rwa [List.length_map] at hlt
          · obtain ⟨p, hp2, e1, _⟩ := kl q hq
            obtain ⟨b1, b2, b3, b4⟩ := hsm p hp2
            rw [e1]
            refine ⟨rfl, fun x hx => ?_⟩
            simp only [List.mem_cons, List.not_mem_nil, or_false] at hx
            rcases hx with z | z <;> rw [z] <;> constructor <;> assumption
          · obtain ⟨toP, htoP⟩ : ∃ toP : Addr × List Int → P2i, toP = fun q => (q.2.getD 0 0, q.2.getD 1 0) := ⟨_, rfl⟩
            have tp : ∀ q, q ∈ L' → toP q ∈ l ∧ q.2 = [(toP q).1, (toP q).2] ∧ H2 q.1 = some (.tup [.int (toP q).1, .int (toP q).2]) := fun q hq => by
              obtain ⟨p, hp2, e1, e2⟩ := kl q (hsub q hq)
              have e3 : toP q = p := by rw [htoP]; show (q.2.getD 0 0, q.2.getD 1 0) = p; rw [e1]; rfl
              rw [e3]
              exact ⟨hp2, e1, sm _ _ e2⟩
            have hM : (L'.map toP).Pairwise ltP2 := by
              refine List.pairwise_map.mpr ?_
              have both := List.pairwise_and_iff.mpr ⟨pw, List.pairwise_map.mp nd⟩
              refine both.imp_of_mem fun {x y} hx hy q => ?_
              obtain ⟨x1, x2, _⟩ := tp x hx
              obtain ⟨y1, y2, _⟩ := tp y hy
              obtain ⟨c1, c2, c3, c4⟩ := hsm _ x1
              obtain ⟨d1, d2, d3, d4⟩ := hsm _ y1
              rw [x2, y2] at q
              exact pair_lt q.1 q.2 ⟨c1, c2⟩ ⟨c3, c4⟩ ⟨d1, d2⟩ ⟨d3, d4⟩
            have hmem : ∀ x, x ∈ L'.map toP ↔ x ∈ l := fun x => by
              constructor
              · intro hx
                obtain ⟨q, hq, rfl⟩ := List.mem_map.mp hx
                exact (tp q hq).1
              · intro hx
                obtain ⟨q, hq, e1⟩ := lk x hx
                obtain ⟨q', hq', e2⟩ := List.mem_map.mp (hall q hq)
                refine List.mem_map.mpr ⟨q', hq', ?_⟩
                have e3 := (tp q' hq').2.1
                have e4 : [(toP q').1, (toP q').2] = [x.1, x.2] := by rw [← e3, e2, e1]
                injection e4 with e5 e6
                injection e6 with e6 _
                exact Prod.ext e5 e6
            rw [nubV_val2, sortV_val2, sortP_one hM hmem] at g
            have rr : ∀ {L : List (Addr × List Int)}, (∀ q, q ∈ L → q ∈ L') → Reps K N H2 (L.map fun q => V.ref q.1) ((L.map toP).map val2) := by
              intro L
              induction L with
              | nil => exact fun _ => .nil
              | cons q L ih => exact fun hL => .cons (rep_of_val2 (tp q (hL q List.mem_cons_self)).2.2) (ih fun z hz => hL z (List.mem_cons_of_mem _ hz))
            have fr2 : Fr H2 N := f.same sm
            refine Got.lst fr2 (fun z H' s rz fz => g z H' (sm.trans s) rz fun a' ws' e1 e2 => (fz a' ws' e1 e2).back sm) ?_ (rr fun q hq => hq) p hn
            rw [List.length_map]
            have ndM : (L'.map toP).Nodup := hM.imp fun {a b} q => fun (z : a = b) => by subst z; exact ltP2_asym a a q q
            have := ndM.length_le_of_subset fun x hx => (hmem x).mp hx
            rw [List.length_map] at hl
            omega
        · exact nomatch e0
      · exact nomatch e0
  | _ => exact nomatch e
end
end Lh
set_option Elab.async false
set_option linter.all false
set_option maxRecDepth 100000
set_option maxHeartbeats 4000000
namespace Lh
open PySem L2 PyProof.Rows
theorem toks_ints : ∀ ns : List Int, PySem.W.keyToksAll (ns.map .int) = (tokL ns).map Sum.inl
  | [] => rfl
  | n :: r => by
    show Sum.inl 1 :: (PySem.W.keyToks (.int n) ++ PySem.W.keyToksAll (r.map .int)) = _
    rw [toks_ints r]
    rfl
theorem toks_it : ∀ x : Itm, PySem.W.keyToks (itD x) = (sgn x).map Sum.inl
  | .inl i => rfl
  | .inr ns => toks_ints ns
theorem toks_its : ∀ k : List Itm, PySem.W.keyToksAll (k.map itD) = (sgs k).map Sum.inl
  | [] => rfl
  | x :: r => by
    show Sum.inl 1 :: (PySem.W.keyToks (itD x) ++ PySem.W.keyToksAll (r.map itD)) = _
    rw [toks_its r, toks_it x]
    show _ = (1 :: (sgn x ++ sgs r)).map Sum.inl
    rw [List.map_cons, List.map_append]
theorem lexI_eq : ∀ l m : List Int, PyProof.Rows.lexLt itemOrd (l.map Sum.inl) (m.map Sum.inl) = lexI l m
  | [], [] => rfl
  | [], _ :: _ => rfl
  | _ :: _, [] => rfl
  | a :: r, b :: s => by
    show (decide (a < b) || (!decide (b < a) && PyProof.Rows.lexLt itemOrd (r.map Sum.inl) (s.map Sum.inl))) = _
    rw [lexI_eq r s]
    rfl
theorem keyLt_eq (x y : List Itm) : keyLt x y = lexI (sgs x) (sgs y) := by
  show PyProof.Rows.lexLt itemOrd (PySem.W.keyToks (encK x)) (PySem.W.keyToks (encK y)) = _
  rw [show PySem.W.keyToks (encK x) = (sgs x).map Sum.inl from toks_its x, show PySem.W.keyToks (encK y) = (sgs y).map Sum.inl from toks_its y, lexI_eq]
theorem keyLt_irr (x : List Itm) : keyLt x x = false := (listOrd itemOrd).irrefl _
theorem keyLt_trans {x y z : List Itm} (h : keyLt x y = true) (h' : keyLt y z = true) : keyLt x z = true := (listOrd itemOrd).trans _ _ _ h h'
theorem lexI_total : ∀ l m : List Int, lexI l m = false → lexI m l = false → l = m
  | [], [], _, _ => rfl
  | [], _ :: _, h, _ => nomatch h
  | _ :: _, [], _, h => nomatch h
  | a :: r, b :: s, h, h' => by
    unfold lexI at h h'
    rw [Bool.or_eq_false_iff, decide_eq_false_iff_not] at h h'
    obtain ⟨h1, h2⟩ := h
    obtain ⟨h3, h4⟩ := h'
    rw [decide_eq_false h3, Bool.not_false, Bool.true_and] at h2
    rw [decide_eq_false h1, Bool.not_false, Bool.true_and] at h4
    rw [lexI_total r s h2 h4, show a = b by omega]
theorem tokL_inj : ∀ {a b : List Int} {r s : List Int}, tokL a ++ r = tokL b ++ s → a = b ∧ r = s
  | [], [], r, s, h => ⟨rfl, by injection h⟩
  | [], n :: b, r, s, h => by
    injection h with h1 _
    exact absurd h1 (by decide)
  | n :: a, [], r, s, h => by
    injection h with h1 _
    exact absurd h1 (by decide)
  | n :: a, m :: b, r, s, h => by
    injection h with _ h
    injection h with h1 h
    obtain ⟨e1, e2⟩ := tokL_inj h
    exact ⟨by rw [h1, e1], e2⟩
theorem sgn_inj : ∀ {x y : Itm} {r s : List Int}, x.isLeft = y.isLeft → sgn x ++ r = sgn y ++ s → x = y ∧ r = s
  | .inl i, .inl j, r, s, _, h => by
    injection h with h1 h2
    exact ⟨by rw [h1], h2⟩
  | .inl _, .inr _, _, _, h, _ => nomatch h
  | .inr _, .inl _, _, _, h, _ => nomatch h
  | .inr a, .inr b, r, s, _, h => by
    obtain ⟨e1, e2⟩ := tokL_inj h
    exact ⟨by rw [e1], e2⟩
theorem sgs_inj : ∀ {x y : List Itm}, x.map Sum.isLeft = y.map Sum.isLeft → sgs x = sgs y → x = y
  | [], [], _, _ => rfl
  | [], _ :: _, h, _ => nomatch h
  | _ :: _, [], h, _ => nomatch h
  | a :: x, b :: y, h, e => by
    rw [List.map_cons, List.map_cons, List.cons.injEq] at h
    injection e with _ e
    obtain ⟨e1, e2⟩ := sgn_inj h.1 e
    rw [e1, sgs_inj h.2 e2]
theorem any_memK {x : List Itm} {l : List (List Itm)} : l.any (fun y => decide (y = x)) = true ↔ x ∈ l := by
  rw [List.any_eq_true]
  constructor
  · rintro ⟨y, hy, q⟩
    rw [← of_decide_eq_true q]
    exact hy
  · intro h
    exact ⟨x, h, decide_eq_true rfl⟩
theorem nubK_mem {k : List Itm} : ∀ {l : List (List Itm)}, k ∈ nubK l ↔ k ∈ l
  | [] => Iff.rfl
  | x :: r => by
    unfold nubK
    split
    · rename_i h
      rw [any_memK] at h
      rw [nubK_mem, List.mem_cons]
      exact ⟨.inr, fun z => z.elim (fun e => by rw [e]; exact nubK_mem.mp h) id⟩
    · rw [List.mem_cons, List.mem_cons, nubK_mem]
theorem nubK_nodup : ∀ {l : List (List Itm)}, (nubK l).Nodup
  | [] => List.nodup_nil
  | x :: r => by
    unfold nubK
    split
    · exact nubK_nodup
    · rename_i h
      rw [any_memK] at h
      exact List.nodup_cons.mpr ⟨h, nubK_nodup⟩
theorem insK_perm (x : List Itm) : ∀ r : List (List Itm), (insK x r).Perm (x :: r)
  | [] => .refl _
  | y :: r => by
    unfold insK
    split
    · exact .refl _
    · exact ((insK_perm x r).cons y).trans (.swap x y r)
theorem sortK_perm : ∀ r : List (List Itm), (sortK r).Perm r
  | [] => .refl _
  | x :: r => (insK_perm x (sortK r)).trans ((sortK_perm r).cons x)
def Up (l : List (List Itm)) : Prop := l.Pairwise fun a b => keyLt b a = false
theorem insK_up (x : List Itm) : ∀ {r : List (List Itm)}, Up r → Up (insK x r)
  | [], _ => List.pairwise_singleton _ _
  | y :: r, h => by
    obtain ⟨h1, h2⟩ := List.pairwise_cons.mp h
    unfold insK
    rw [← keyLt_eq]
    split
    · rename_i hx
      refine List.pairwise_cons.mpr ⟨fun z hz => ?_, h⟩
      cases q : keyLt z x with
      | false => rfl
      | true =>
        rcases List.mem_cons.mp hz with e | hz
        · rw [e] at q
          have := keyLt_trans q hx
          rw [keyLt_irr] at this
          cases this
        · have := keyLt_trans q hx
          rw [h1 z hz] at this
          cases this
    · rename_i hx
      refine List.pairwise_cons.mpr ⟨fun z hz => ?_, insK_up x h2⟩
      rcases List.mem_cons.mp ((insK_perm x r).mem_iff.mp hz) with e | hz
      · rw [e]
        cases q : keyLt x y with
        | false => rfl
        | true => exact absurd q hx
      · exact h1 z hz
theorem sortK_up : ∀ r : List (List Itm), Up (sortK r)
  | [] => List.Pairwise.nil
  | x :: r => insK_up x (sortK_up r)
theorem up_one : ∀ {l m : List (List Itm)}, Up l → Up m → l.Perm m → (∀ a ∈ l, ∀ b ∈ l, a.map Sum.isLeft = b.map Sum.isLeft) → l = m
  | [], m, _, _, p, _ => (List.Perm.nil_eq p)
  | a :: l, [], _, _, p, _ => absurd p.length_eq (by simp)
  | a :: l, b :: m, hl, hm, p, hs => by
    obtain ⟨l1, l2⟩ := List.pairwise_cons.mp hl
    obtain ⟨m1, m2⟩ := List.pairwise_cons.mp hm
    have ha : a ∈ b :: m := p.mem_iff.mp List.mem_cons_self
    have hb : b ∈ a :: l := p.mem_iff.mpr List.mem_cons_self
    have e : a = b := by
      refine sgs_inj (hs a List.mem_cons_self b hb) (lexI_total _ _ ?_ ?_)
      · rw [← keyLt_eq]
        rcases List.mem_cons.mp ha with z | z
        · rw [z]
          exact keyLt_irr b
        · exact m1 a z
      · rw [← keyLt_eq]
        rcases List.mem_cons.mp hb with z | z
        · rw [z]
          exact keyLt_irr a
        · exact l1 b z
    subst e
    rw [up_one l2 m2 p.cons_inv fun x hx y hy => hs x (List.mem_cons_of_mem _ hx) y (List.mem_cons_of_mem _ hy)]
theorem itOf_eq : ∀ {v : Val} {x : Itm}, itOf v = some x → v = itVal x
  | .int i, x, h => by
    cases h
    rfl
  | .tup xs, x, h => by
    have h : (intsOf xs).map Sum.inr = some x := h
    cases q : intsOf xs with
    | none =>
      rw [q] at h
      cases h
    | some ns =>
      rw [q] at h
      cases h
      rw [intsOf_eq q]
      rfl
  | .non, _, h => nomatch h
  | .bool _, _, h => nomatch h
  | .str _, _, h => nomatch h
  | .lst _, _, h => nomatch h
  | .scr _, _, h => nomatch h
  | .dct _ _ _, _, h => nomatch h
  | .exc _, _, h => nomatch h
  | .obj _ _, _, h => nomatch h
theorem itsOf_eq : ∀ {vs : List Val} {k : List Itm}, itsOf vs = some k → vs = k.map itVal
  | [], k, h => by
    cases h
    rfl
  | v :: vs, k, h => by
    unfold itsOf at h
    cases q : itOf v with
    | none =>
      rw [q] at h
      cases h
    | some x =>
      rw [q] at h
      cases q2 : itsOf vs with
      | none =>
        rw [q2] at h
        cases h
      | some r =>
        rw [q2] at h
        cases h
        rw [itOf_eq q, itsOf_eq q2]
        rfl
section
variable {K : PySem.W.Frag} {N : Addr → Prop} {H : Hp} {Q : VK}
theorem hit_of {v : V} : ∀ {x : Itm}, Rep K N H v (itVal x) → HIt K H x v
  | .inl i, r => by
    have r : Rep K N H v (.int i) := r
    cases r
    rfl
  | .inr ns, r => by
    have r : Rep K N H v (.tup (ns.map .int)) := r
    cases r with
    | tup h hl r =>
      have := r.ints
      subst this
      exact ⟨_, rfl, SqT.of h⟩
theorem hits_of : ∀ {k : List Itm} {xs : List V}, Reps K N H xs (k.map itVal) → Paired (HIt K H) k xs
  | [], _, .nil => .nil
  | _ :: _, _, .cons a t => .cons (hit_of a) (hits_of t)
theorem keysN_rep : ∀ {ws : List Val} {xs : List V} {ks : List (List Itm)}, Reps K N H xs ws → keysOf ws = some ks →
    ∃ L : NL, xs = L.map (fun p => V.ref p.1) ∧ L.map (·.2) = ks ∧ ∀ p ∈ L, HN K H p.1 p.2 ∧ Rep K N H (.ref p.1) (keyVal p.2)
  | [], _, ks, .nil, h => by
    cases h
    exact ⟨[], rfl, rfl, fun p hp => absurd hp List.not_mem_nil⟩
  | w :: ws, _, ks, .cons r t, h => by
    cases r with
    | @tup a xs us ha hl r =>
      unfold keysOf at h
      cases q : itsOf us with
      | none =>
        rw [q] at h
        cases h
      | some k =>
        rw [q] at h
        cases q2 : keysOf ws with
        | none =>
          rw [q2] at h
          cases h
        | some ks' =>
          rw [q2] at h
          cases h
          obtain ⟨L, e1, e2, e3⟩ := keysN_rep t q2
          have e := itsOf_eq q
          subst e
          refine ⟨(a, k) :: L, by rw [List.map_cons, e1], by rw [List.map_cons, e2], fun p hp => ?_⟩
          rcases List.mem_cons.mp hp with z | z
          · rw [z]
            exact ⟨⟨xs, SqT.of ha, hits_of r⟩, .tup ha hl r⟩
          · exact e3 p z
    | _ => exact nomatch h
theorem ssN_ok {a : Addr} {xs : List V} {ws : List Val} {w : Val} (f : Fr H N) (r : Reps K N H xs ws) (hl : ws.length ≤ cap) (hq : SqL K H a xs ∨ SqT K H a xs) (e : ssN ws = .ok w) (g : Got K N H w Q) : rSSN K (.ref a) H Q := by
  unfold ssN at e
  split at e
  · rename_i ks hk
    split at e
    · rename_i hc
      rw [Bool.and_eq_true, decide_eq_true_eq] at hc
      cases e
      obtain ⟨L, rfl, e2, e3⟩ := keysN_rep r hk
      have hlen : L.length = ws.length := by
        have := r.length
        rwa [List.length_map] at this
      obtain ⟨sh, hsh, hne⟩ : ∃ sh, (∀ p ∈ L, p.2.map Sum.isLeft = sh) ∧ sh ≠ [] := by
        cases L with
        | nil => exact ⟨[true], fun p hp => absurd hp List.not_mem_nil, by simp⟩
        | cons p L =>
          rw [← e2, List.map_cons] at hc
          have h1 := hc.1
          unfold oneShape at h1
          rw [Bool.and_eq_true, List.all_eq_true] at h1
          refine ⟨p.2.map Sum.isLeft, fun q hq => ?_, fun z => ?_⟩
          · rcases List.mem_cons.mp hq with z | z
            · rw [z]
            · exact eq_of_beq (h1.2 q.2 (List.mem_map.mpr ⟨q, z, rfl⟩))
          · have : p.2 = [] := List.map_eq_nil_iff.mp z
            rw [this] at h1
            exact nomatch h1.1
      refine ⟨a, L, sh, rfl, hq, fun p hp => (e3 p hp).1, hsh, hne, by rw [hlen]; exact hc.2, fun M p hsub hall nd pw hn => ?_⟩
      have eM : M.map (·.2) = sortK (nubK ks) := by
        refine up_one ?_ (sortK_up _) (((List.perm_ext_iff_of_nodup nd nubK_nodup).mpr fun k => ?_).trans (sortK_perm _).symm) fun x hx y hy => ?_
        · exact List.pairwise_map.mpr pw
        · rw [nubK_mem, ← e2]
          constructor
          · intro h
            obtain ⟨q, hq, rfl⟩ := List.mem_map.mp h
            exact List.mem_map.mpr ⟨q, hsub q hq, rfl⟩
          · intro h
            obtain ⟨q, hq, rfl⟩ := List.mem_map.mp h
            exact hall q hq
        · obtain ⟨q, hq, rfl⟩ := List.mem_map.mp hx
          obtain ⟨q', hq', rfl⟩ := List.mem_map.mp hy
          rw [hsh q (hsub q hq), hsh q' (hsub q' hq')]
      rw [← eM, List.map_map] at g
      have rr : ∀ {L' : NL}, (∀ q ∈ L', q ∈ L) → Reps K N H (L'.map fun q => V.ref q.1) (L'.map (keyVal ∘ (·.2))) := by
        intro L'
        induction L' with
        | nil => exact fun _ => .nil
        | cons q L' ih => exact fun h => .cons (e3 q (h q List.mem_cons_self)).2 (ih fun z hz => h z (List.mem_cons_of_mem _ hz))
      refine g.lst f ?_ (rr hsub) p hn
      rw [List.length_map]
      have h1 : (M.map (·.2)).length ≤ (L.map (·.2)).length := nd.length_le_of_subset fun k hk => by
        obtain ⟨q, hq, rfl⟩ := List.mem_map.mp hk
        exact List.mem_map.mpr ⟨q, hsub q hq, rfl⟩
      rw [List.length_map, List.length_map, hlen] at h1
      omega
    · exact nomatch e
  · exact nomatch e
theorem sortedSetN_ok {v : V} {u w : Val} (f : Fr H N) (r : Rep K N H v u) (e : biV .sortedSetN [u] = .ok w) (g : Got K N H w Q) : rSSN K v H Q := by
  cases r with
  | tup h hl r => exact ssN_ok f r hl (.inr (SqT.of h)) e g
  | lst n h hl r => exact ssN_ok f r hl (.inl (SqL.of h)) e g
  | _ => exact nomatch e
end
end Lh
set_option Elab.async false
set_option linter.all false
set_option maxRecDepth 100000
set_option maxHeartbeats 4000000
namespace Lh
open PySem L2
/-- the promise of a def: handed what stands for ws, it comes to F ws -/
def PSp (K : PySem.W.Frag) (mg : Str → Option Value) (F : List Val → Res Val) : Sp := fun vs H Q E => ∃ (N : Addr → Prop) (ws : List Val), Fr H N ∧ Reps K N H vs ws ∧
  ((∃ w, F ws = .ok w ∧ ∀ v H', Same H H' → Rep K N H' v w → Q v H') ∨ ∃ c, F ws = .exc c ∧ ∀ C H', Same H H' → mg c = some (.ref C) → E (.ref C) none H')
/-- data without lists, so deep at most, as it lies -/
def PureV (K : PySem.W.Frag) (d : Nat) (H : Hp) (v : V) : Prop := ∃ (N : Addr → Prop) (w : Val), Rep K N H v w ∧ w.pd d = true
/-- a list of such -/
def FlatL (K : PySem.W.Frag) (d : Nat) (H : Hp) (b : Addr) (xs : List V) : Prop := H b = some (.lst xs) ∧ ∀ x, x ∈ xs → PureV K d H x
/-- the promise of what changes all lists that it is handed: data, a list of data, a list of such lists and of data -/
def PSpS (K : PySem.W.Frag) (d : Nat) : Sp := fun vs H Q _ => ∃ v, vs = [v] ∧
  ((PureV K d H v ∧ ∀ H', Same H H' → Q .non H') ∨
   (∃ b xs d', d = d' + 1 ∧ v = .ref b ∧ FlatL K d' H b xs ∧ xs.length ≤ 200000 ∧ ∀ H', (∀ c o, c ≠ b → H c = some o → H' c = some o) → H' b = some (.lst (V.non :: xs.reverse)) → Q .non H') ∨
   (∃ a xs d', d = d' + 2 ∧ v = .ref a ∧ H a = some (.lst xs) ∧ xs.length ≤ 1000 ∧ (∀ x, x ∈ xs → PureV K (d' + 1) H x ∨ ∃ b ys, x = .ref b ∧ FlatL K d' H b ys ∧ ys.length ≤ cap) ∧
    ∀ H', (∀ c o, H c = some o → c ≠ a → (V.ref c ∈ xs → ∀ ys, o ≠ .lst ys) → H' c = some o) → (∀ c, H c ≠ none → H' c ≠ none) → Q .non H'))
/-- the promise, at lists that are locked meanwhile -/
def FrzOf (S : Addr → Prop) (H Hz : Hp) : Prop := ∀ b, (∀ xs, S b → H b = some (.lst xs) → ∃ o, Hz b = some (.frz o (.lst xs))) ∧ ((¬ ∃ xs, S b ∧ H b = some (.lst xs)) → Hz b = H b)
def UnfOf (S : Addr → Prop) (H H' H2 : Hp) : Prop := ∀ b, ((∃ xs, S b ∧ H b = some (.lst xs)) → H2 b = H b) ∧ ((¬ ∃ xs, S b ∧ H b = some (.lst xs)) → H2 b = H' b)
def PSpZ (sp : Sp) : Sp := fun vs H Q _ => ∃ S : Addr → Prop, ∀ Hz, FrzOf S H Hz → sp vs Hz (fun v H' => ∀ H2, UnfOf S H H' H2 → Q v H2) fun _ _ _ => False
def AttrOk (K : PySem.W.Frag) (f : Str) : Prop := Cls K (C0 K) ∧ NoAttr K (C0 K) f
def tFldA (K : PySem.W.Frag) (f : Str) (t : TE) : TE := fun σ H Q => AttrOk K f → tFld K t f σ H Q
/-- what an object that may be changed holds -/
inductive ContR (K : PySem.W.Frag) (N : Addr → Prop) (H : Hp) (a : Addr) : Cont → Prop where
  | lst {xs : List V} {ws : List Val} (h : H a = some (.lst xs)) (hl : ws.length ≤ cap) (r : Reps K N H xs ws) : ContR K N H a (.lst ws)
  | dK {kvs : List (Key × V)} {ks ws : List Val} (h : H a = some (.dK kvs)) (hk : ks = kvs.map fun p => keyV p.1) (hl : ws.length ≤ cap) (r : Reps K N H (kvs.map (·.2)) ws) : ContR K N H a (.dct true ks ws)
  | obj {dx : Addr} {fl : List (Str × V)} {nm : List Str} {ws : List Val} (h : H a = some (.ins (C0 K) dx fl)) (hm : nm = fl.map (·.1)) (hp : Val.pures ws = true) (r : Reps K N H (fl.map (·.2)) ws) : ContR K N H a (.obj nm ws)
theorem ContR.live {K : PySem.W.Frag} {N : Addr → Prop} {H : Hp} {a : Addr} {c : Cont} (h : ContR K N H a c) : H a ≠ none ∧ ∀ o, H a = some o → ¬ sturdy o := by
  cases h with
  | lst h _ _ => exact ⟨by rw [h]; exact (fun z => nomatch z), fun o e => by rw [h] at e; cases e; exact id⟩
  | dK h _ _ _ => exact ⟨by rw [h]; exact (fun z => nomatch z), fun o e => by rw [h] at e; cases e; exact id⟩
  | obj h _ _ _ => exact ⟨by rw [h]; exact (fun z => nomatch z), fun o e => by rw [h] at e; cases e; exact id⟩
/-- all but what is at a is as it was -/
def SameX (a : Addr) (H H' : Hp) : Prop := ∀ b o, b ≠ a → H b = some o → H' b = some o
def insA {α : Type} (j : Nat) (x : α) (l : List α) : List α := l.take j ++ x :: l.drop j
/-- the promise of a def that changes its j-th argument: handed what stands for ws, and an object that holds ct, it comes to F ws ct -/
def PSpM (K : PySem.W.Frag) (mg : Str → Option Value) (j : Nat) (F : List Val → Cont → OutM) : Sp := fun vs H Q E => ∃ (N : Addr → Prop) (us : List V) (ws : List Val) (a : Addr) (ct : Cont), vs = insA j (.ref a) us ∧ Fr H N ∧ N a ∧ Reps K (fun b => N b ∧ b ≠ a) H us ws ∧ ContR K (fun b => N b ∧ b ≠ a) H a ct ∧
  ((∃ v ct', F ws ct = .ok v ct' ∧ ∀ z H', SameX a H H' → Rep K (fun b => N b ∧ b ≠ a) H' z v → v.pure = true → ContR K (fun b => N b ∧ b ≠ a) H' a ct' → Q z H') ∨
    ∃ c ct', F ws ct = .exc c ct' ∧ ∀ C H', SameX a H H' → ContR K (fun b => N b ∧ b ≠ a) H' a ct' → mg c = some (.ref C) → E (.ref C) none H')
def iSeq (K : PySem.W.Frag) (t : TE) : TI := fun σ H R => t σ H fun x H1 => ∃ a, x = .ref a ∧ (((∃ xs, SqL K H1 a xs) ∧ R (Itl K a) H1) ∨ ((∃ xs, SqT K H1 a xs) ∧ R (Itt K a) H1))
/-- enumerate of a tuple -/
def IteT (K : PySem.W.Frag) (a : Addr) : It :=
  ⟨fun i H => ∃ (xs : List V) (x : V), SqT K H a xs ∧ xs[i]? = some x, fun i H v H' => ∃ T x, v = .ref T ∧ H T = none ∧ H' = upd H T (.tup [.int (i : Nat), x]) ∧ ∀ xs, SqT K H a xs → xs[i]? = some x, fun i H => ∃ xs : List V, SqT K H a xs ∧ xs.length ≤ i⟩
def iEnumA (K : PySem.W.Frag) (ta : TA) : TI := fun σ H R => ta σ H fun vs H1 => ∃ a, vs = [.ref a] ∧ (((∃ xs, SqL K H1 a xs) ∧ R (Ite K a) H1) ∨ ((∃ xs, SqT K H1 a xs) ∧ R (IteT K a) H1))
def rIntS : List V → Hp → VK → Prop := fun xs H Q => ∃ a n, xs = [.str a] ∧ PySem.intText? a = some n ∧ a.length ≤ 640 ∧ Q (.int n) H
def rStr1 : List V → Hp → VK → Prop := fun xs H Q => ∃ i, xs = [.int i] ∧ i.natAbs.log2 < 1920 ∧ Q (.str (toString i)) H
def rStrS : List V → Hp → VK → Prop := fun xs H Q => ∃ a, xs = [.str a] ∧ Q (.str a) H
def rSplitS : V → List V → Hp → VK → Prop := fun x xs H Q => ∃ a b, x = .str a ∧ xs = [.str b] ∧ (b.length == 0) = false ∧ a.length + 2 ≤ sizeLine ∧ rNewStrs (Txt.split a b) H Q
def rJoinS (K : PySem.W.Frag) : V → List V → Hp → VK → Prop := fun x xs H Q => ∃ a p, ∃ ys : List Str, x = .str a ∧ xs = [.ref p] ∧ (SqL K H p (ys.map V.str) ∨ SqT K H p (ys.map V.str)) ∧
      (ys.map (·.length)).sum + ys.length * a.length ≤ 16777216 ∧ Q (.str (Txt.join a ys)) H
/-- arguments that no rule takes -/
def rOff : List V → Hp → VK → Prop := fun _ _ _ => False
/-- isinstance of an error that was kept -/
def tIsX (K : PySem.W.Frag) (mg : Str → Option Value) (c : Str) (t : TE) : TE := fun σ H Q => (c = "ValueError" → tCB (rIsX K) (tCons t (tCons (tC (.ty "ValueError")) tNil)) σ H Q) ∧
  (c ≠ "ValueError" → ∀ C, XOk K mg → c ∈ XN → mg c = some (.ref C) → tCB (rIsX K) (tCons t (tCons (tC (.ref C)) tNil)) σ H Q)
def rdB1 (K : PySem.W.Frag) (mg : Str → Option Value) : Bi → TE → TE
  | .len, t => tCB (rLenA K) (tCons t tNil)
  | .list, t => tCB (rListA K) (tCons t tNil)
  | .tuple, t => tCB (rTupA K) (tCons t tNil)
  | .all, t => tCB (rAll K) (tCons t tNil)
  | .any, t => tCB (rAny K) (tCons t tNil)
  | .max1, t => tCB (rMax K) (tCons t tNil)
  | .sorted, t => tCB (fun xs H Q => rSortedI K xs H Q ∨ rSortedPO K xs H Q) (tCons t tNil)
  | .sortedSet, t => tSortedSet K t
  | .sortedSetN, t => tSortedSetN K t
  | .int1, t => tCB (fun xs H Q => rInt1 xs H Q ∨ rIntS xs H Q) (tCons t tNil)
  | .str1, t => tCB (fun xs H Q => rStr1 xs H Q ∨ rStrS xs H Q) (tCons t tNil)
  | .lenSet, t => tLenSetT K t
  | .isexc c, t => tIsX K mg c t
  | .isinLT, t => tCB (rIsiT K) (tCons t (tCons (tTup (tCons (tC (.ty "list")) (tCons (tC (.ty "tuple")) tNil))) tNil))
  | .isinst ty, t => tCB (rIsi K) (tCons t (tCons (tC (.ty (tyName ty))) tNil))
  | _, t => tCB rOff (tCons t tNil)
def rdB2 (K : PySem.W.Frag) : Bi → TE → TE → TE
  | .max2, t, u => tCB Evl.rMax2 (tCons t (tCons u tNil))
  | .min2, t, u => tCB rMin2A (tCons t (tCons u tNil))
  | .index, t, u => tBM K "list" (rIndex K) t (tCons u tNil)
  | .join, t, u => tM1 (rJoinS K) t u
  | .split, t, u => tM1 rSplitS t u
  | .count, t, u => tBM K "list" (rCount K) t (tCons u tNil)
  | _, t, u => tCB rOff (tCons t (tCons u tNil))
def rdB3 : Bi → TE → TE → TE → TE
  | .get, t, u, r => tDGet2 t u r
  | _, t, u, r => tCB rOff (tCons t (tCons u (tCons r tNil)))
def gNames : List Nat → TGs
  | [] => gNil
  | i :: is => gCons (gName i) (gNames is)
def rdTg (K : PySem.W.Frag) : Tg → TG
  | .name i => gName i
  | .tup is => gTup K is.length (gNames is)
  | .pair a b => gTup K 2 (gCons (rdTg K a) (gCons (rdTg K b) gNil))
/-- lets no exception out -/
def W0 : WX := fun _ _ _ _ => False
mutual
/-- an expression's reading as a value, as a test -/
def rd (K : PySem.W.Frag) (mg : Str → Option Value) (W : WX) : E → TE × TT
  | .var i => (tVar i, tB (tVar i))
  | .int n => (tC (.int n), tB (tC (.int n)))
  | .bool b => (tC (.bl b), tB (tC (.bl b)))
  | .non => (tC .non, tB (tC .non))
  | .str s => (tC (.str s), tB (tC (.str s)))
  | .glob _ n => (tC (.int n), tB (tC (.int n)))
  | .tup es => (tTup (rdEs K mg W es), tB (tTup (rdEs K mg W es)))
  | .lst es => (tLst (rdEs K mg W es), tB (tLst (rdEs K mg W es)))
  | .dict k => (if k then tDNewK else tDNewT, tB (if k then tDNewK else tDNewT))
  | .bin op a b => (tOp (rBin K op) (rd K mg W a).1 (rd K mg W b).1, tB (tOp (rBin K op) (rd K mg W a).1 (rd K mg W b).1))
  | .neg a => (tUn (rU fun i => .int (-i)) (rd K mg W a).1, tB (tUn (rU fun i => .int (-i)) (rd K mg W a).1))
  | .cmp op a b => (tOp (rCmp K op) (rd K mg W a).1 (rd K mg W b).1, tTest (tOp (rCmp K op) (rd K mg W a).1 (rd K mg W b).1))
  | .chain o1 o2 a b c => (tChain (rCmp K o1) (rCmp K o2) (rd K mg W a).1 (rd K mg W b).1 (rd K mg W c).1, tTest (tChain (rCmp K o1) (rCmp K o2) (rd K mg W a).1 (rd K mg W b).1 (rd K mg W c).1))
  | .and a b => (tAndV (rd K mg W a).1 (rd K mg W b).1, tAnd (rd K mg W a).2 (rd K mg W b).2)
  | .or a b => (tOrV (rd K mg W a).1 (rd K mg W b).1, tOr (rd K mg W a).2 (rd K mg W b).2)
  | .not a => (tNotV (rd K mg W a).1, tNot (rd K mg W a).2)
  | .ife c a b => (tIf (rd K mg W c).2 (rd K mg W a).1 (rd K mg W b).1, fun _ _ _ => False)
  | .idx a b => (tOp (rIdx K) (rd K mg W a).1 (rd K mg W b).1, tB (tOp (rIdx K) (rd K mg W a).1 (rd K mg W b).1))
  | .slice a lo hi => (tSl (rSl K) (rd K mg W a).1 (rdEo K mg W lo) (rdEo K mg W hi), tB (tSl (rSl K) (rd K mg W a).1 (rdEo K mg W lo) (rdEo K mg W hi)))
  | .rev a => (tRevA K (rd K mg W a).1, tB (tRevA K (rd K mg W a).1))
  | .comp elt tg src cond own => (tLc (rdSrc K mg W src) (rdTg K tg) (rdC K mg cond) (rd K mg W0 elt).1 own, tB (tLc (rdSrc K mg W src) (rdTg K tg) (rdC K mg cond) (rd K mg W0 elt).1 own))
  | .call _ F es => (tCallS (PSp K mg F) (WE W) (rdEs K mg W es), tB (tCallS (PSp K mg F) (WE W) (rdEs K mg W es)))
  | .attr i f => (tFldA K f (tVar i), tB (tFldA K f (tVar i)))
  | .meth i m F es => (L2H.tMethH (C0 K) m (PSp K mg F) (WE W) (tVar i) (rdEs K mg W es), tB (L2H.tMethH (C0 K) m (PSp K mg F) (WE W) (tVar i) (rdEs K mg W es)))
  | .b1 f a => (rdB1 K mg f (rd K mg W a).1, tB (rdB1 K mg f (rd K mg W a).1))
  | .b2 f a b => (rdB2 K f (rd K mg W a).1 (rd K mg W b).1, tB (rdB2 K f (rd K mg W a).1 (rd K mg W b).1))
  | .b3 f a b c => (rdB3 f (rd K mg W a).1 (rd K mg W b).1 (rd K mg W c).1, tB (rdB3 f (rd K mg W a).1 (rd K mg W b).1 (rd K mg W c).1))
  | .rng src => (tLstRg (rdRg K mg W src), tB (tLstRg (rdRg K mg W src)))
def rdEs (K : PySem.W.Frag) (mg : Str → Option Value) (W : WX) : Es → TA
  | .nil => tNil
  | .cons e es => tCons (rd K mg W e).1 (rdEs K mg W es)
def rdEo (K : PySem.W.Frag) (mg : Str → Option Value) (W : WX) : Eo → TO
  | .no => tNoPart
  | .yes e => tPart (rd K mg W e).1
def rdC (K : PySem.W.Frag) (mg : Str → Option Value) : Eo → TT
  | .no => tYes
  | .yes e => (rd K mg W0 e).2
def rdSrc (K : PySem.W.Frag) (mg : Str → Option Value) (W : WX) : Src → TI
  | .seq e => iSeq K (rd K mg W e).1
  | .signs e => iStr (rd K mg W e).1
  | .range1 a => iRng1 (tCons (rd K mg W a).1 tNil)
  | .range2 a b => iRng2 (tCons (rd K mg W a).1 (tCons (rd K mg W b).1 tNil))
  | .enum e => iEnumA K (tCons (rd K mg W e).1 tNil)
  | .zip a b => iZipM K (tCons (rd K mg W a).1 (tCons (rd K mg W b).1 tNil))
def rdRg (K : PySem.W.Frag) (mg : Str → Option Value) (W : WX) : Src → St → Hp → (Int → Int → Hp → Prop) → Prop
  | .range1 a => fun σ H q => (rd K mg W a).1 σ H fun x H1 => ∃ i, x = .int i ∧ q 0 i H1
  | .range2 a b => fun σ H q => (rd K mg W a).1 σ H fun x H1 => (rd K mg W b).1 σ H1 fun y H2 => ∃ i j, x = .int i ∧ y = .int j ∧ q i j H2
  | _ => fun _ _ _ => False
end
/-- the slots hold what the names stand for -/
structure Ev (K : PySem.W.Frag) (N : Addr → Prop) (H : Hp) (σ : St) (ρ : Env) : Prop where
  len : σ.length = ρ.length
  at' : ∀ (i : Nat) (w : Val), slotV ρ[i]? = .ok w → ∃ v, σ[i]? = some (some v) ∧ Rep K N H v w
  ob : ∀ (i : Nat) (p : List Str × List Val), Lh.flds ρ[i]? = some p → ∃ a dx fl, σ[i]? = some (some (.ref a)) ∧ H a = some (.ins (C0 K) dx fl) ∧ p.1 = fl.map (·.1) ∧ Val.pures p.2 = true ∧ Reps K N H (fl.map (·.2)) p.2
theorem Ev.same {K : PySem.W.Frag} {N : Addr → Prop} {H H' : Hp} {σ : St} {ρ : Env} (h : Ev K N H σ ρ) (e : Same H H') : Ev K N H' σ ρ :=
  ⟨h.len, fun i w q => let ⟨v, a, b⟩ := h.at' i w q; ⟨v, a, b.same e⟩, fun i p q => let ⟨a, dx, fl, h1, h2, h3, h4, h5⟩ := h.ob i p q; ⟨a, dx, fl, h1, e _ _ h2, h3, h4, h5.same e⟩⟩
/-- an exception of the class c may go out -/
def ExcW (mg : Str → Option Value) (W : WX) (σ : St) (H : Hp) (c : Str) : Prop := ∀ C H', Same H H' → mg c = some (.ref C) → W (.ref C) none σ H'
theorem ExcW.same {mg : Str → Option Value} {W : WX} {σ : St} {H H' : Hp} {c : Str} (h : ExcW mg W σ H c) (e : Same H H') : ExcW mg W σ H' c := fun C H2 e2 m => h C H2 (e.trans e2) m
theorem bind_ok {α β : Type} {r : Res α} {f : α → Res β} {b : β} (h : r.bind f = .ok b) : ∃ a, r = .ok a ∧ f a = .ok b := by
  cases r with
  | ok a => exact ⟨a, rfl, h⟩
  | exc c => exact nomatch h
  | stuck => exact nomatch h
theorem bind_exc {α β : Type} {r : Res α} {f : α → Res β} {c : Str} (h : r.bind f = .exc c) : r = .exc c ∨ ∃ a, r = .ok a ∧ f a = .exc c := by
  cases r with
  | ok a => exact .inr ⟨a, rfl, h⟩
  | exc c => exact .inl (by cases h; rfl)
  | stuck => exact nomatch h
section
variable (K : PySem.W.Frag) (mg : Str → Option Value) (W : WX)
structure Den (t : TE) (fr : Bool) (d : Env → Res Val) : Prop where
  ok : ∀ (N : Addr → Prop) (H : Hp) (σ : St) (ρ : Env) (w : Val) (Q : VK), Fr H N → Ev K N H σ ρ → d ρ = .ok w →
    (∀ v H', Same H H' → Rep K N H' v w → (fr = true → ∀ a ws, v = .ref a → w = .lst ws → NewL K N H H' a ws) → Q v H') → t σ H Q
  exc : ∀ (N : Addr → Prop) (H : Hp) (σ : St) (ρ : Env) (c : Str) (Q : VK), Fr H N → Ev K N H σ ρ → d ρ = .exc c → ExcW mg W σ H c → t σ H Q
structure DenT (t : TT) (d : Env → Res Val) : Prop where
  ok : ∀ (N : Addr → Prop) (H : Hp) (σ : St) (ρ : Env) (b : Bool) (Q : Bool → Hp → Prop), Fr H N → Ev K N H σ ρ → d ρ = .ok (.bool b) → (∀ H', Same H H' → Q b H') → t σ H Q
  exc : ∀ (N : Addr → Prop) (H : Hp) (σ : St) (ρ : Env) (c : Str) (Q : Bool → Hp → Prop), Fr H N → Ev K N H σ ρ → d ρ = .exc c → ExcW mg W σ H c → t σ H Q
structure DenA (t : TA) (d : Env → Res (List Val)) : Prop where
  ok : ∀ (N : Addr → Prop) (H : Hp) (σ : St) (ρ : Env) (ws : List Val) (Q : List V → Hp → Prop), Fr H N → Ev K N H σ ρ → d ρ = .ok ws → (∀ vs H', Same H H' → Reps K N H' vs ws → Q vs H') → t σ H Q
  exc : ∀ (N : Addr → Prop) (H : Hp) (σ : St) (ρ : Env) (c : Str) (Q : List V → Hp → Prop), Fr H N → Ev K N H σ ρ → d ρ = .exc c → ExcW mg W σ H c → t σ H Q
structure DenO (t : TO) (d : Env → Res (Option Val)) : Prop where
  ok : ∀ (N : Addr → Prop) (H : Hp) (σ : St) (ρ : Env) (o : Option Val) (o' : Option Int) (Q : Option Int → Hp → Prop), Fr H N → Ev K N H σ ρ → d ρ = .ok o → optI o = .ok o' → (∀ H', Same H H' → Q o' H') → t σ H Q
  exc : ∀ (N : Addr → Prop) (H : Hp) (σ : St) (ρ : Env) (c : Str) (Q : Option Int → Hp → Prop), Fr H N → Ev K N H σ ρ → d ρ = .exc c → ExcW mg W σ H c → t σ H Q
/-- what is walked stays, while what is marked stays; the i-th that comes stands for the i-th item -/
def Stays (N : Addr → Prop) (H' : Hp) (items : List Val) (G : Hp → Prop) (Y : Nat → Hp → V → Hp → Prop) : Prop :=
  ∀ N' : Addr → Prop, (∀ a, N a → H' a ≠ none → N' a) → (∀ H1 H2, Keep N' H1 H2 → G H1 → G H2) ∧
    ∀ i H1 x H2, i < items.length → Keep N' H' H1 → G H1 → Y i H1 x H2 → ∃ w, items[i]? = some w ∧ Same H1 H2 ∧ Rep K N' H2 x w
structure DenS (t : TI) (d : Env → Res (List Val)) : Prop where
  ok : ∀ (N : Addr → Prop) (H : Hp) (σ : St) (ρ : Env) (items : List Val) (R : It → Hp → Prop), Fr H N → Ev K N H σ ρ → d ρ = .ok items →
    (∀ J H' G Y, Same H H' → items.length ≤ cap → L2.Walk J items.length G Y → G H' → Stays K N H' items G Y → R J H') → t σ H R
  exc : ∀ (N : Addr → Prop) (H : Hp) (σ : St) (ρ : Env) (c : Str) (R : It → Hp → Prop), Fr H N → Ev K N H σ ρ → d ρ = .exc c → ExcW mg W σ H c → t σ H R
structure DenR (t : St → Hp → (Int → Int → Hp → Prop) → Prop) (d : Env → Res (List Val)) : Prop where
  ok : ∀ (N : Addr → Prop) (H : Hp) (σ : St) (ρ : Env) (items : List Val) (Q : Int → Int → Hp → Prop), Fr H N → Ev K N H σ ρ → d ρ = .ok items →
    (∀ a b H', Same H H' → rangeR a b = .ok items → Q a b H') → t σ H Q
  exc : ∀ (N : Addr → Prop) (H : Hp) (σ : St) (ρ : Env) (c : Str) (Q : Int → Int → Hp → Prop), Fr H N → Ev K N H σ ρ → d ρ = .exc c → ExcW mg W σ H c → t σ H Q
end
end Lh
set_option Elab.async false
set_option linter.all false
set_option maxRecDepth 100000
set_option maxHeartbeats 4000000
namespace Lh
open PySem PySem.Spec PyProof.Rows L2
section
variable {P : Program} {w : World}
theorem lst_free {H H' : Hp} {h : Heap} {a : Addr} {xs : List V} (x : ObjOk P w H h a (.lst xs)) : ObjOk P w H' h a (.lst xs) := x
theorem FnOk.froz {K : PySem.W.Frag} {mg : Str → Option Value} {base : Heap} {k : Nat} {f : Addr} {fd : FuncData} {ps : List Str} {sp : Sp} (F : FnOk P w K mg base (L2.CX P w) k f fd ps sp) : FnOk P w K mg base (L2.CX P w) k f fd ps (PSpZ sp) := by
  classical
  refine ⟨fun vs H Q E h => ?_, fun A outer s H args us vs Q E hr he hb hv h => ?_⟩
  · obtain ⟨S, h⟩ := h
    refine F.len vs _ _ _ (h (fun b => match H b with
      | some (.lst xs) => if S b then some (.frz { cls := .none, data := .plain } (.lst xs)) else some (.lst xs)
      | o => o) fun b => ⟨fun xs hS hx => ?_, fun hn => ?_⟩)
    · show ∃ o, (match H b with | some (.lst xs) => if S b then some (HO.frz { cls := .none, data := .plain } (.lst xs)) else some (.lst xs) | o => o) = _
      rw [hx]
      exact ⟨_, if_pos hS⟩
    · show (match H b with | some (.lst xs) => if S b then some (HO.frz { cls := .none, data := .plain } (.lst xs)) else some (.lst xs) | o => o) = _
      split
      · rename_i xs hx
        rw [hx]
        exact if_neg fun z => hn ⟨xs, z, hx⟩
      · rfl
  · obtain ⟨S, h⟩ := h
    obtain ⟨T, hT⟩ : ∃ T : Addr → Prop, T = fun b => ∃ xs, S b ∧ H b = some (.lst xs) := ⟨_, rfl⟩
    -- the heap with the lists locked
    have pick : ∀ b, ∃ o : Option HO, (∀ xs, S b → H b = some (.lst xs) → ∃ ob, s.heap.get? b = some ob ∧ o = some (.frz ob (.lst xs))) ∧ ((¬ ∃ xs, S b ∧ H b = some (.lst xs)) → o = H b) := fun b => by
      by_cases q : ∃ xs, S b ∧ H b = some (.lst xs)
      · obtain ⟨xs, hS, hx⟩ := q
        obtain ⟨_, its, n, _, hg⟩ := (show ObjOk P w H s.heap b (.lst xs) from he.hok b _ hx)
        refine ⟨some (.frz { cls := .type "list", data := .seq its.toArray n } (.lst xs)), fun ys _ hy => ⟨_, hg, ?_⟩, fun z => absurd ⟨xs, hS, hx⟩ z⟩
        rw [hx] at hy
        cases hy
        rfl
      · exact ⟨H b, fun xs hS hx => absurd ⟨xs, hS, hx⟩ q, fun _ => rfl⟩
    obtain ⟨Hz, hz⟩ := Classical.axiomOfChoice pick
    have hzT : ∀ b xs, S b → H b = some (.lst xs) → ∃ ob, s.heap.get? b = some ob ∧ Hz b = some (.frz ob (.lst xs)) := fun b => (hz b).1
    have hzN : ∀ b, (¬ ∃ xs, S b ∧ H b = some (.lst xs)) → Hz b = H b := fun b => (hz b).2
    have nn : ∀ b, H b = none → Hz b = none := fun b e => by
      rw [hzN b (fun ⟨xs, _, q⟩ => by rw [e] at q; cases q)]
      exact e
    have other : ∀ b u, H b = some u → (∀ xs, u ≠ .lst xs) → Hz b = some u := fun b u e n => by
      rw [hzN b (fun ⟨xs, _, q⟩ => by rw [e] at q; exact n xs (Option.some.inj q))]
      exact e
    have hokz : HOk P w Hz s.heap := fun b u e => by
      by_cases q : ∃ xs, S b ∧ H b = some (.lst xs)
      · obtain ⟨xs, hS, hx⟩ := q
        obtain ⟨ob, hg, e2⟩ := hzT b xs hS hx
        rw [e2] at e
        cases e
        exact ⟨hg, he.hok b _ hx⟩
      · rw [hzN b q] at e
        exact (he.hok b u e).stay (fun c v _ r => r) (fun c r => other c _ r fun _ z => nomatch z) fun c xs r => other c _ r fun _ z => nomatch z
    have e0 : Env0 P w K mg base A outer s Hz := ⟨he.frames, he.mod, fun b o e => ⟨(he.bs b o e).1, nn b (he.bs b o e).2⟩, he.bsz, he.funs, fun b hb => nn b (he.frf b hb), hokz, he.bare⟩
    have fz : FrzOf S H Hz := fun b => ⟨fun xs hS hx => let ⟨ob, _, e⟩ := hzT b xs hS hx; ⟨ob, e⟩, hzN b⟩
    refine codeAny_mono (F.run A outer s Hz args us vs _ _ hr e0 hb hv (h Hz fz)) fun r s' hq => ?_
    cases r with
    | error e =>
      obtain ⟨_, _, _, _, _, _, _, _, _, _, _, _, z⟩ := (show L2.CX P w outer Hz s (fun _ _ _ => False) e s' from hq)
      exact z.elim
    | ok fl =>
      cases fl with
      | next => exact False.elim hq
      | brk => exact False.elim hq
      | cont => exact False.elim hq
      | ret u =>
        obtain ⟨v, H', os, bare, un, hok', rv, q⟩ := hq
        obtain ⟨H2, h2⟩ : ∃ H2 : Hp, H2 = fun b => if (∃ xs, S b ∧ H b = some (.lst xs)) then H b else H' b := ⟨_, rfl⟩
        have h2T : ∀ b, (∃ xs, S b ∧ H b = some (.lst xs)) → H2 b = H b := fun b q => by rw [h2]; exact if_pos q
        have h2N : ∀ b, (¬ ∃ xs, S b ∧ H b = some (.lst xs)) → H2 b = H' b := fun b q => by rw [h2]; exact if_neg q
        have notT : ∀ b u, H b = some u → (∀ xs, u ≠ .lst xs) → ¬ ∃ xs, S b ∧ H b = some (.lst xs) := fun b u e n ⟨xs, _, q⟩ => by
          rw [e] at q
          exact n xs (Option.some.inj q)
        -- what is locked stays
        have lock : ∀ b xs, S b → H b = some (.lst xs) → ∃ ob, H' b = some (.frz ob (.lst xs)) := fun b xs hS hx => by
          obtain ⟨ob, _, e⟩ := hzT b xs hS hx
          exact ⟨ob, un.frzs b ob _ e⟩
        have fromO : ∀ c u, H' c = some u → (∀ o xs, u ≠ .frz o (.lst xs)) → H2 c = some u := fun c u e n => by
          by_cases q : ∃ xs, S c ∧ H c = some (.lst xs)
          · obtain ⟨xs, hS, hx⟩ := q
            obtain ⟨ob, e2⟩ := lock c xs hS hx
            rw [e] at e2
            exact absurd (Option.some.inj e2) (n ob xs)
          · rw [h2N c q]
            exact e
        refine ⟨v, H2, os, bare, ⟨?_, ?_, ?_, ?_, ?_, ?_, ?_⟩, fun b u e => ?_, rv, q H2 fun b => ⟨h2T b, h2N b⟩⟩
        · exact fun b o e n hb hx => un.keep b o e (nn b n) hb hx
        · exact fun b o e n hb hx => un.slot b o e (nn b n) hb hx
        · exact fun b o e n hx => by
            rw [h2N b (fun ⟨xs, _, q⟩ => by rw [n] at q; cases q)]
            exact un.free b o e (nn b n) hx
        · exact un.there
        · exact fun b xs e => by
            rw [h2N b (notT b _ e fun _ z => nomatch z)]
            exact un.tups b xs (other b _ e fun _ z => nomatch z)
        · exact fun b o u e => by
            rw [h2N b (notT b _ e fun _ z => nomatch z)]
            exact un.frzs b o u (other b _ e fun _ z => nomatch z)
        · exact fun b ps e => by
            rw [h2N b (notT b _ e fun _ z => nomatch z)]
            exact un.tbls b ps (other b _ e fun _ z => nomatch z)
        · by_cases q : ∃ xs, S b ∧ H b = some (.lst xs)
          · rw [h2T b q] at e
            obtain ⟨xs, hS, hx⟩ := q
            rw [hx] at e
            cases e
            obtain ⟨ob, e2⟩ := lock b xs hS hx
            exact lst_free (hok' b _ e2).2
          · rw [h2N b q] at e
            exact (hok' b u e).stay (fun c v _ r => r) (fun c r => fromO c _ r fun _ _ z => nomatch z) fun c xs r => fromO c _ r fun _ _ z => nomatch z
end
end Lh
set_option Elab.async false
set_option linter.all false
set_option maxRecDepth 100000
set_option maxHeartbeats 4000000
namespace Lh
open PySem L2
section
variable {K : PySem.W.Frag} {mg : Str → Option Value} {W : WX}
theorem den_tB {t : TE} {fr : Bool} {d : Env → Res Val} (h : Den K mg W t fr d) : DenT K mg W (tB t) d :=
  ⟨fun N H σ ρ b Q f e q k => h.ok N H σ ρ _ _ f e q fun v H' s r _ => by
    cases r
    exact ⟨b, rfl, k H' s⟩, fun N H σ ρ c Q f e q k => h.exc N H σ ρ c _ f e q k⟩
theorem den_tTest {t : TE} {fr : Bool} {d : Env → Res Val} (h : Den K mg W t fr d) : DenT K mg W (tTest t) d :=
  ⟨fun N H σ ρ b Q f e q k => h.ok N H σ ρ _ _ f e q fun v H' s r _ => by
    cases r
    exact ⟨b, rfl, k H' s⟩, fun N H σ ρ c Q f e q k => h.exc N H σ ρ c _ f e q k⟩
theorem Den.weak {t : TE} {fr : Bool} {d : Env → Res Val} (h : Den K mg W t fr d) : Den K mg W t false d :=
  ⟨fun N H σ ρ w Q f e q k => h.ok N H σ ρ w Q f e q fun v H' s r _ => k v H' s r fun z => (nomatch z), h.exc⟩
theorem den_c {v : V} {w : Val} {fr : Bool} (hr : ∀ N H, Rep K N H v w) (hl : ∀ ws, w ≠ .lst ws) : Den K mg W (tC v) fr (fun _ => .ok w) :=
  ⟨fun N H σ ρ w' Q f e q k => by
    cases q
    exact k v H (Same.refl H) (hr N H) fun _ a ws _ z => absurd z (hl ws), fun N H σ ρ c Q f e q k => nomatch q⟩
theorem den_var {i : Nat} : Den K mg W (tVar i) false (fun ρ => slotV ρ[i]?) :=
  ⟨fun N H σ ρ w Q f e q k => by
    obtain ⟨v, h1, h2⟩ := e.at' i w q
    exact ⟨v, h1, k v H (Same.refl H) h2 fun z => nomatch z⟩, fun N H σ ρ c Q f e q k => by
    exfalso
    cases h : ρ[i]? with
    | none =>
      rw [h] at q
      exact nomatch q
    | some s =>
      rw [h] at q
      cases s <;> exact nomatch q⟩
/-- one place -/
theorem den_un {ta : TE} {fa fr : Bool} {da : Env → Res Val} {r : V → Hp → VK → Prop} {f : Val → Res Val} (ha : Den K mg W ta fa da)
    (hop : ∀ N H x u w Q, Fr H N → Rep K N H x u → f u = .ok w → (∀ z H', Same H H' → Rep K N H' z w → (fr = true → ∀ a ws, z = .ref a → w = .lst ws → NewL K N H H' a ws) → Q z H') → r x H Q)
    (hnx : ∀ u c, f u ≠ .exc c) : Den K mg W (fun σ H Q => ta σ H fun x H1 => r x H1 Q) fr (fun ρ => (da ρ).bind f) :=
  ⟨fun N H σ ρ w Q fh e q k => by
    obtain ⟨u, e1, q⟩ := bind_ok q
    refine ha.ok N H σ ρ u _ fh e e1 fun x H1 s1 r1 _ => ?_
    exact hop N H1 x u w Q (fh.same s1) r1 q fun z H3 s3 r3 f3 => k z H3 (s1.trans s3) r3 fun hf a ws ez ew => (f3 hf a ws ez ew).back s1,
  fun N H σ ρ c Q fh e q k => by
    rcases bind_exc q with q | ⟨u, e1, q⟩
    · exact ha.exc N H σ ρ c _ fh e q k
    · exact absurd q (hnx u c)⟩
/-- two places -/
theorem den_op {ta tb : TE} {fa fb fr : Bool} {da db : Env → Res Val} {r : R2} {f : Val → Val → Res Val} (ha : Den K mg W ta fa da) (hb : Den K mg W tb fb db)
    (hop : ∀ N H x y u v w Q, Fr H N → Rep K N H x u → Rep K N H y v → f u v = .ok w → (∀ z H', Same H H' → Rep K N H' z w → (fr = true → ∀ a ws, z = .ref a → w = .lst ws → NewL K N H H' a ws) → Q z H') → r x y H Q)
    (hnx : ∀ u v c, f u v ≠ .exc c) : Den K mg W (fun σ H Q => ta σ H fun x H1 => tb σ H1 fun y H2 => r x y H2 Q) fr (fun ρ => (da ρ).bind fun x => (db ρ).bind fun y => f x y) :=
  ⟨fun N H σ ρ w Q fh e q k => by
    obtain ⟨u, e1, q⟩ := bind_ok q
    obtain ⟨v, e2, q⟩ := bind_ok q
    refine ha.ok N H σ ρ u _ fh e e1 fun x H1 s1 r1 _ => ?_
    refine hb.ok N H1 σ ρ v _ (fh.same s1) (e.same s1) e2 fun y H2 s2 r2 _ => ?_
    exact hop N H2 x y u v w Q ((fh.same s1).same s2) (r1.same s2) r2 q fun z H3 s3 r3 f3 => k z H3 ((s1.trans s2).trans s3) r3 fun hf a ws ez ew => ((f3 hf a ws ez ew).back s2).back s1,
  fun N H σ ρ c Q fh e q k => by
    rcases bind_exc q with q | ⟨u, e1, q⟩
    · exact ha.exc N H σ ρ c _ fh e q k
    · refine ha.ok N H σ ρ u _ fh e e1 fun x H1 s1 r1 _ => ?_
      rcases bind_exc q with q | ⟨v, e2, q⟩
      · exact hb.exc N H1 σ ρ c _ (fh.same s1) (e.same s1) q (k.same s1)
      · exact absurd q (hnx u v c)⟩
theorem optR_nx {o : Option Val} {c : Str} : optR o ≠ .exc c := by cases o <;> exact fun h => nomatch h
theorem bin_nx (op : Bop) (u v : Val) (c : Str) : binV op u v ≠ .exc c := by
  intro h
  unfold binV at h
  split at h <;> first | (cases h; done) | (split at h <;> (cases h; done))
theorem isIn_nx (u v : Val) (c : Str) : isInV u v ≠ .exc c := by
  intro h
  unfold isInV at h
  split at h <;> first | (cases h; done) | (split at h <;> (cases h; done))
theorem cmp_nx (op : Cop) (u v : Val) (c : Str) : cmpV op u v ≠ .exc c := by
  intro h
  unfold cmpV at h
  split at h <;> first
    | (cases h; done)
    | (split at h <;> (cases h; done))
    | (rcases bind_exc h with h | ⟨a, _, h⟩
       · exact isIn_nx _ _ _ h
       · (cases h; done))
theorem idx_nx (u v : Val) (c : Str) : idxV u v ≠ .exc c := by
  intro h
  unfold idxV at h
  split at h <;> first
    | (cases h; done)
    | (exact optR_nx h)
    | (split at h <;> first | (exact optR_nx h) | (cases h; done))
theorem slice_nx (lo hi : Option Int) (u : Val) (c : Str) : sliceV lo hi u ≠ .exc c := by
  intro h
  unfold sliceV at h
  split at h <;> first | (cases h; done) | (split at h <;> (cases h; done))
theorem bi_nx (f : Bi) (us : List Val) (c : Str) : biV f us ≠ .exc c := by
  intro h
  unfold biV at h
  split at h <;> first
    | (cases h; done)
    | (unfold isX at h; split at h <;> (cases h; done))
    | (unfold ssN at h; split at h <;> first | (cases h; done) | (split at h <;> (cases h; done)))
    | (exact optR_nx h)
    | (split at h <;> first | (cases h; done) | (exact optR_nx h) | (split at h <;> first | (cases h; done) | (exact optR_nx h) | (split at h <;> (cases h; done))))
theorem den_nil : DenA K mg W tNil (fun _ => .ok []) :=
  ⟨fun N H σ ρ ws Q f e q k => by
    cases q
    exact k [] H (Same.refl H) .nil, fun N H σ ρ c Q f e q k => nomatch q⟩
theorem den_cons {ta : TE} {tr : TA} {fa : Bool} {da : Env → Res Val} {dr : Env → Res (List Val)} (ha : Den K mg W ta fa da) (hr : DenA K mg W tr dr) :
    DenA K mg W (tCons ta tr) (fun ρ => (da ρ).bind fun v => (dr ρ).bind fun vs => .ok (v :: vs)) :=
  ⟨fun N H σ ρ ws Q f e q k => by
    obtain ⟨u, e1, q⟩ := bind_ok q
    obtain ⟨us, e2, q⟩ := bind_ok q
    cases q
    refine ha.ok N H σ ρ u _ f e e1 fun x H1 s1 r1 _ => ?_
    refine hr.ok N H1 σ ρ us _ (f.same s1) (e.same s1) e2 fun xs H2 s2 r2 => ?_
    exact k _ _ (s1.trans s2) (.cons (r1.same s2) r2),
  fun N H σ ρ c Q f e q k => by
    rcases bind_exc q with q | ⟨u, e1, q⟩
    · exact ha.exc N H σ ρ c _ f e q k
    · refine ha.ok N H σ ρ u _ f e e1 fun x H1 s1 r1 _ => ?_
      rcases bind_exc q with q | ⟨v, e2, q⟩
      · exact hr.exc N H1 σ ρ c _ (f.same s1) (e.same s1) q (k.same s1)
      · exact nomatch q⟩
/-- a call of a def -/
theorem den_call {F : List Val → Res Val} {t : TA} {d : Env → Res (List Val)} (h : DenA K mg W t d) : Den K mg W (tCallS (PSp K mg F) (WE W) t) false (fun ρ => (d ρ).bind F) :=
  ⟨fun N H σ ρ w Q f e q k => by
    obtain ⟨us, e1, q⟩ := bind_ok q
    refine h.ok N H σ ρ us _ f e e1 fun xs H1 s1 r1 => ?_
    exact ⟨N, us, f.same s1, r1, .inl ⟨w, q, fun v H' s2 r2 => k v H' (s1.trans s2) r2 fun z => nomatch z⟩⟩,
  fun N H σ ρ c Q f e q k => by
    rcases bind_exc q with q | ⟨us, e1, q⟩
    · exact h.exc N H σ ρ c _ f e q k
    · refine h.ok N H σ ρ us _ f e e1 fun xs H1 s1 r1 => ?_
      exact ⟨N, us, f.same s1, r1, .inr ⟨c, q, fun C H' s2 m => k C H' (s1.trans s2) m⟩⟩⟩
theorem look_fl {N : Addr → Prop} {H : Hp} {f : Str} {w : Val} : ∀ {fl : List (Str × V)} {ws : List Val}, Reps K N H (fl.map (·.2)) ws → lookF (fl.map (·.1)) ws f = some w → ∃ v, fl.lookup f = some v ∧ Rep K N H v w
  | [], _, _, h => nomatch h
  | p :: fl, _, .cons r t, h => by
    have h' : (if p.1 = f then some _ else lookF (fl.map (·.1)) _ f) = some w := h
    by_cases e : p.1 = f
    · rw [if_pos e] at h'
      cases h'
      refine ⟨p.2, ?_, r⟩
      rw [List.lookup_cons, beq_iff_eq.mpr e.symm]
    · rw [if_neg e] at h'
      obtain ⟨v, h1, h2⟩ := look_fl t h'
      refine ⟨v, ?_, h2⟩
      have : (f == p.1) = false := by
        rw [Bool.eq_false_iff]
        exact fun z => e (beq_iff_eq.mp z).symm
      rw [List.lookup_cons, this]
      exact h1
theorem look_no {m : Str} : ∀ {fl : List (Str × V)}, m ∉ fl.map (·.1) → fl.lookup m = none
  | [], _ => rfl
  | p :: fl, h => by
    rw [List.map_cons, List.mem_cons, not_or] at h
    have : (m == p.1) = false := by
      rw [Bool.eq_false_iff]
      exact fun z => h.1 (beq_iff_eq.mp z)
    rw [List.lookup_cons, this]
    exact look_no h.2
theorem den_attr {i : Nat} {f : Str} {fr : Bool} (hfr : fr = false) : Den K mg W (tFldA K f (tVar i)) fr (fun ρ => attrV (flds ρ[i]?) f) := by
  subst hfr
  refine ⟨fun N H σ ρ w Q fh e q k => ?_, fun N H σ ρ c Q fh e q k => ?_⟩
  · cases hp : flds ρ[i]? with
    | none =>
      rw [hp] at q
      exact nomatch q
    | some p =>
      rw [hp] at q
      obtain ⟨a, dx, fl, h1, h2, h3, h4, h5⟩ := e.ob i p hp
      have q' : optR (lookF p.1 p.2 f) = .ok w := q
      rw [h3] at q'
      obtain ⟨v, e1, r1⟩ := look_fl h5 (optR_ok q')
      exact fun ok => ⟨.ref a, h1, a, C0 K, dx, fl, v, rfl, h2, ok.1, ok.2, e1, k v H (Same.refl H) r1 fun z => nomatch z⟩
  · exfalso
    cases hp : flds ρ[i]? with
    | none =>
      rw [hp] at q
      exact nomatch q
    | some p =>
      rw [hp] at q
      exact optR_nx q
theorem methO_ok {m : Str} {o u : Val} (h : methO m o = .ok u) : ∃ nm fs, o = .obj nm fs ∧ u = .obj nm fs ∧ m ∉ nm := by
  cases o with
  | obj nm fs =>
    have h' : (if m ∈ nm then Res.stuck else .ok (Val.obj nm fs)) = .ok u := h
    split at h'
    · exact nomatch h'
    · rename_i hn
      cases h'
      exact ⟨nm, fs, rfl, rfl, hn⟩
  | _ => exact nomatch h
theorem methO_nx {m c : Str} {o : Val} (h : methO m o = .exc c) : False := by
  cases o with
  | obj nm fs =>
    have h' : (if m ∈ nm then Res.stuck else .ok (Val.obj nm fs)) = .exc c := h
    split at h' <;> exact nomatch h'
  | _ => exact nomatch h
theorem slotV_nx {o : Option Slot} {c : Str} (z : slotV o = .exc c) : False := by
  cases o with
  | none => exact nomatch z
  | some s => cases s <;> exact nomatch z
theorem den_meth {i : Nat} {m : Str} {F : List Val → Res Val} {t : TA} {d : Env → Res (List Val)} (h : DenA K mg W t d) : Den K mg W (L2H.tMethH (C0 K) m (PSp K mg F) (WE W) (tVar i) t) false (fun ρ => (slotV ρ[i]?).bind fun o => (methO m o).bind fun o => (d ρ).bind fun vs => F (o :: vs)) := by
  refine ⟨fun N H σ ρ w Q f e q k => ?_, fun N H σ ρ c Q f e q k => ?_⟩
  · obtain ⟨o, e1, q⟩ := bind_ok q
    obtain ⟨u, e0, q⟩ := bind_ok q
    obtain ⟨vs, e2, q⟩ := bind_ok q
    obtain ⟨nm, ws, rfl, rfl, hn⟩ := methO_ok e0
    obtain ⟨v, s1, r1⟩ := e.at' i _ e1
    cases r1 with
    | @obj a dx fl nm ws n h1 hm hp r =>
      rw [hm] at hn
      refine ⟨.ref a, s1, a, dx, fl, rfl, h1, look_no hn, ?_⟩
      refine h.ok N H σ ρ vs _ f e e2 fun xs H1 s2 r2 => ?_
      exact ⟨N, _, f.same s2, .cons (Rep.obj n (s2 _ _ h1) hm hp (r.same s2)) r2, .inl ⟨w, q, fun v H' s3 r3 => k v H' (s2.trans s3) r3 fun z => nomatch z⟩⟩
  · rcases bind_exc q with q | ⟨o, e1, q⟩
    · exact (slotV_nx q).elim
    · rcases bind_exc q with q | ⟨u, e0, q⟩
      · exact (methO_nx q).elim
      · obtain ⟨nm, ws, rfl, rfl, hn⟩ := methO_ok e0
        obtain ⟨v, s1, r1⟩ := e.at' i _ e1
        cases r1 with
        | @obj a dx fl nm ws n h1 hm hp r =>
          rw [hm] at hn
          refine ⟨.ref a, s1, a, dx, fl, rfl, h1, look_no hn, ?_⟩
          rcases bind_exc q with q | ⟨vs, e2, q⟩
          · exact h.exc N H σ ρ c _ f e q k
          · refine h.ok N H σ ρ vs _ f e e2 fun xs H1 s2 r2 => ?_
            exact ⟨N, _, f.same s2, .cons (Rep.obj n (s2 _ _ h1) hm hp (r.same s2)) r2, .inr ⟨c, q, fun C H' s3 m => k C H' (s2.trans s3) m⟩⟩
theorem den_tup {t : TA} {d : Env → Res (List Val)} {fr : Bool} (h : DenA K mg W t d) : Den K mg W (tTup t) fr (fun ρ => (d ρ).bind fun vs => if vs.length ≤ cap then .ok (.tup vs) else .stuck) :=
  ⟨fun N H σ ρ w Q f e q k => by
    obtain ⟨us, e1, q⟩ := bind_ok q
    split at q
    · cases q
      rename_i hc
      refine h.ok N H σ ρ us _ f e e1 fun xs H1 s1 r1 => ⟨by rw [r1.length]; exact cap_line hc, fun p hp => ?_⟩
      exact k _ _ (s1.trans (same_upd hp)) (.tup upd_same hc (r1.same (same_upd hp))) fun _ _ _ _ z => nomatch z
    · exact (nomatch q),
  fun N H σ ρ c Q f e q k => by
    rcases bind_exc q with q | ⟨us, e1, q⟩
    · exact h.exc N H σ ρ c _ f e q k
    · split at q <;> exact nomatch q⟩
theorem den_lst {t : TA} {d : Env → Res (List Val)} (h : DenA K mg W t d) : Den K mg W (tLst t) true (fun ρ => (d ρ).bind fun vs => if vs.length ≤ cap then .ok (.lst vs) else .stuck) :=
  ⟨fun N H σ ρ w Q f e q k => by
    obtain ⟨us, e1, q⟩ := bind_ok q
    split at q
    · cases q
      rename_i hc
      refine h.ok N H σ ρ us _ f e e1 fun xs H1 s1 r1 => ⟨by rw [r1.length]; exact cap_line hc, fun p hp => ?_⟩
      refine k _ _ (s1.trans (same_upd hp)) (.lst (f.same s1 p hp) upd_same hc (r1.same (same_upd hp))) fun _ a ws ez ew => ?_
      cases ez
      cases ew
      exact (NewL.mk' hp r1).back s1
    · exact (nomatch q),
  fun N H σ ρ c Q f e q k => by
    rcases bind_exc q with q | ⟨us, e1, q⟩
    · exact h.exc N H σ ρ c _ f e q k
    · split at q <;> exact nomatch q⟩
theorem den_dict {k : Bool} {fr : Bool} : Den K mg W (if k then tDNewK else tDNewT) fr (fun _ => .ok (.dct k [] [])) := by
  refine ⟨fun N H σ ρ w Q f e q kk => ?_, fun N H σ ρ c Q f e q k => nomatch q⟩
  cases q
  cases k with
  | true => exact fun p hp => kk _ _ (same_upd hp) (.dK (kvs := []) (f p hp) upd_same rfl (Nat.zero_le _) .nil) fun _ _ _ _ z => nomatch z
  | false => exact fun p hp => kk _ _ (same_upd hp) (.dT (kvs := []) (f p hp) upd_same ⟨fun p hp => absurd hp (List.not_mem_nil), rfl⟩ (Nat.zero_le _) .nil) fun _ _ _ _ z => nomatch z
theorem den_neg {ta : TE} {fa fr : Bool} {da : Env → Res Val} (ha : Den K mg W ta fa da) : Den K mg W (tUn (rU fun i => .int (-i)) ta) fr (fun ρ => (da ρ).bind (asInt fun i => .ok (.int (-i)))) :=
  den_un (r := rU fun i => .int (-i)) ha (fun N H x u w Q f r e k => by
    cases r with
    | int i =>
      cases e
      exact ⟨i, rfl, k _ _ (Same.refl H) (.int _) fun _ _ _ _ z => nomatch z⟩
    | _ => exact nomatch e) (fun u c h => by cases u <;> exact nomatch h)
theorem got_any {N : Addr → Prop} {H : Hp} {w : Val} {Q : VK} {fr : Bool} (k : ∀ z H', Same H H' → Rep K N H' z w → (fr = true → ∀ a ws, z = .ref a → w = .lst ws → NewL K N H H' a ws) → Q z H') : Got K N H w Q :=
  fun z H' s r f => k z H' s r fun _ => f
theorem den_bin {ta tb : TE} {fa fb fr : Bool} {da db : Env → Res Val} (op : Bop) (ha : Den K mg W ta fa da) (hb : Den K mg W tb fb db) :
    Den K mg W (tOp (rBin K op) ta tb) fr (fun ρ => (da ρ).bind fun x => (db ρ).bind fun y => binV op x y) :=
  den_op ha hb (fun N H x y u v w Q f rx ry e k => bin_ok f rx ry e (got_any k)) (bin_nx op)
theorem den_cmp {ta tb : TE} {fa fb fr : Bool} {da db : Env → Res Val} (op : Cop) (ha : Den K mg W ta fa da) (hb : Den K mg W tb fb db) :
    Den K mg W (tOp (rCmp K op) ta tb) fr (fun ρ => (da ρ).bind fun x => (db ρ).bind fun y => cmpV op x y) :=
  den_op ha hb (fun N H x y u v w Q f rx ry e k => cmp_ok rx ry e (got_any k)) (cmp_nx op)
theorem den_idx {ta tb : TE} {fa fb : Bool} {da db : Env → Res Val} (ha : Den K mg W ta fa da) (hb : Den K mg W tb fb db) :
    Den K mg W (tOp (rIdx K) ta tb) false (fun ρ => (da ρ).bind fun x => (db ρ).bind fun y => idxV x y) :=
  den_op ha hb (fun N H x y u v w Q f rx ry e k => idx_ok rx ry e fun z H' s r => k z H' s r fun z => nomatch z) idx_nx
end
end Lh
set_option Elab.async false
set_option linter.all false
set_option maxRecDepth 100000
set_option maxHeartbeats 4000000
namespace Lh
open PySem L2
section
variable {K : PySem.W.Frag} {mg : Str → Option Value} {W : WX}
theorem findV_ok {N : Addr → Prop} {H : Hp} {y : V} {u : Val} (ry : Rep K N H y u) (hu : u.flat = true) : ∀ {ys : List V} {ws : List Val} {n j : Nat}, Reps K N H ys ws → ws.all Val.flat = true → findV u ws n = some j →
    n ≤ j ∧ ∃ z, ys[j - n]? = some z ∧ eqV z y = true ∧ ∀ m z', m < j - n → ys[m]? = some z' → eqV z' y = false
  | _, _, n, j, .nil, _, h => nomatch h
  | _, _, n, j, @Reps.cons _ _ _ v vs w ws r t, ha, h => by
    rw [List.all_cons, Bool.and_eq_true] at ha
    have e0 := eqV_rep r ry ha.1 hu
    unfold findV at h
    split at h
    · rename_i hc
      cases h
      rw [Nat.sub_self]
      exact ⟨Nat.le_refl _, v, rfl, by rw [e0]; exact hc, fun m z' hm => absurd hm (Nat.not_lt_zero _)⟩
    · rename_i hc
      obtain ⟨h1, z, h2, h3, h4⟩ := findV_ok ry hu t ha.2 h
      refine ⟨by omega, z, ?_, h3, fun m z' hm hz => ?_⟩
      · have e1 : j - n = (j - (n + 1)) + 1 := by omega
        rw [e1]
        exact h2
      · cases m with
        | zero =>
          cases hz
          rw [e0]
          exact Bool.eq_false_iff.mpr hc
        | succ m => exact h4 m z' (by omega) hz
theorem count_rep {N : Addr → Prop} {H : Hp} {y : V} {u : Val} (ry : Rep K N H y u) (hu : u.flat = true) : ∀ {ys : List V} {ws : List Val}, Reps K N H ys ws → ws.all Val.flat = true → (ys.countP fun z => eqV z y) = ws.countP fun w => w.eqv u
  | _, _, .nil, _ => rfl
  | _, _, .cons r t, h => by
    rw [List.all_cons, Bool.and_eq_true] at h
    rw [List.countP_cons, List.countP_cons, count_rep ry hu t h.2, eqV_rep r ry h.1 hu]
theorem den_b1 (f : Bi) {a : E} {ta : TE} {fa : Bool} {da : Env → Res Val} (ha : Den K mg W ta fa da) : Den K mg W (rdB1 K mg f ta) (freshTop (.b1 f a)) (fun ρ => (da ρ).bind fun x => biV f [x]) := by
  cases f with
  | len => exact den_un (r := fun x H Q => rLenA K [x] H Q) ha (fun N H x u w Q f r e k => len_ok r e (got_any k)) fun u c => bi_nx _ _ c
  | list => exact den_un (r := fun x H Q => rListA K [x] H Q) ha (fun N H x u w Q f r e k => list_ok f r e (got_any k)) fun u c => bi_nx _ _ c
  | tuple => exact den_un (r := fun x H Q => rTupA K [x] H Q) ha (fun N H x u w Q f r e k => tuple_ok r e (got_any k)) fun u c => bi_nx _ _ c
  | all =>
    refine den_un (r := fun x H Q => rAll K [x] H Q) ha (fun N H x u w Q f r e k => ?_) fun u c => bi_nx _ _ c
    cases r with
    | lst n h hl r =>
      have e1 := optR_ok e
      cases e2 : boolsOf _ with
      | none =>
        rw [e2] at e1
        cases e1
      | some bs =>
        rw [e2] at e1
        cases e1
        have e3 := boolsOf_eq e2
        subst e3
        have e4 := r.bools
        subst e4
        exact ⟨_, bs, rfl, SqL.of h, (got_any k).bool⟩
    | _ => exact nomatch e
  | any =>
    refine den_un (r := fun x H Q => rAny K [x] H Q) ha (fun N H x u w Q f r e k => ?_) fun u c => bi_nx _ _ c
    cases r with
    | lst n h hl r =>
      have e1 := optR_ok e
      cases e2 : boolsOf _ with
      | none =>
        rw [e2] at e1
        cases e1
      | some bs =>
        rw [e2] at e1
        cases e1
        have e3 := boolsOf_eq e2
        subst e3
        have e4 := r.bools
        subst e4
        exact ⟨_, bs, rfl, SqL.of h, (got_any k).bool⟩
    | _ => exact nomatch e
  | max1 =>
    refine den_un (r := fun x H Q => rMax K [x] H Q) ha (fun N H x u w Q f r e k => ?_) fun u c => bi_nx _ _ c
    cases r with
    | lst n h hl r =>
      simp only [biV] at e
      split at e
      · rename_i x r' e2
        cases e
        have e3 := intsOf_eq e2
        subst e3
        have e4 := r.ints
        subst e4
        refine ⟨_, x :: r', rfl, SqL.of h, by simp, fun M h1 h2 => ?_⟩
        rw [max_one h1 h2]
        exact (got_any k).int
      · exact nomatch e
    | _ => exact nomatch e
  | sorted =>
    refine den_un (r := fun x H Q => rSortedI K [x] H Q ∨ rSortedPO K [x] H Q) ha (fun N H x u w Q f r e k => ?_) fun u c => bi_nx _ _ c
    cases u with
    | lst ws =>
      have e0 : (match intsOf ws with
        | some _ => Res.ok (Val.lst (sortV ws))
        | none => if ws.all pairI then Res.ok (Val.lst (sortV ws)) else .stuck) = .ok w := e
      split at e0
      · rename_i ns e2
        cases e0
        cases r with
        | lst n h hl r =>
          have e3 := intsOf_eq e2
          subst e3
          have e4 := r.ints
          subst e4
          refine .inl ⟨_, ns, rfl, SqL.of h, fun ns' p hp hs hn => ?_⟩
          rw [sort_one hp hs]
          rw [sortV_int] at k
          refine (got_any k).lst f ?_ (reps_ints _) p hn
          rw [List.length_map, (sortI_perm ns).length_eq]
          rw [List.length_map] at hl
          exact hl
      · split at e0
        · rename_i hp
          cases e0
          exact .inr (sortedP_ok f r hp rfl (got_any k))
        · exact nomatch e0
    | _ => exact nomatch e
  | sortedSet => exact den_un (r := fun x H Q => rSSI K x H Q ∨ rSSP K x H Q) ha (fun N H x u w Q f r e k => sortedSet_ok f r e (got_any k)) fun u c => bi_nx _ _ c
  | sortedSetN => exact den_un (r := fun x H Q => rSSN K x H Q) ha (fun N H x u w Q f r e k => sortedSetN_ok f r e (got_any k)) fun u c => bi_nx _ _ c
  | int1 =>
    refine den_un (r := fun x H Q => rInt1 [x] H Q ∨ rIntS [x] H Q) ha (fun N H x u w Q f r e k => ?_) fun u c => bi_nx _ _ c
    cases r with
    | bool b =>
      cases e
      exact .inl (.inr ⟨b, rfl, (got_any k).int⟩)
    | str z =>
      have e0 : (if 1 ≤ z.length ∧ z.length ≤ 18 ∧ z.cps.toList.all isFig = true then Res.ok (Val.int (figN z.cps.toList : Nat)) else .stuck) = .ok w := e
      split at e0
      · rename_i c
        cases e0
        exact .inr ⟨z, _, rfl, int_fig c.1 c.2.1 c.2.2, by omega, (got_any k).int⟩
      · exact nomatch e0
    | _ => exact nomatch e
  | str1 =>
    refine den_un (r := fun x H Q => rStr1 [x] H Q ∨ rStrS [x] H Q) ha (fun N H x u w Q f r e k => ?_) fun u c => bi_nx _ _ c
    cases r with
    | str z =>
      cases e
      exact .inr ⟨z, rfl, (got_any k).str⟩
    | int i =>
      have e0 : (if i.natAbs < 2 ^ 64 then Res.ok (Val.str (Str.ofString (toString i))) else .stuck) = .ok w := e
      split at e0
      · rename_i c
        cases e0
        exact .inl ⟨i, rfl, log_small c, (got_any k).str⟩
      · exact nomatch e0
    | _ => exact nomatch e
  | isexc c =>
    have one : ∀ (cv : V) (u' : Value), ClsV cv u' → (∀ d D, d ∈ XN → XcF K d D → ∀ w, isX d c = .ok w → ∃ b, w = .bool b ∧ PySem.W.kitOne K (.ref D) u' = some b) → Den K mg W (tCB (rIsX K) (tCons ta (tCons (tC cv) tNil))) false (fun ρ => (da ρ).bind fun x => biV (.isexc c) [x]) := fun cv u' hcv hk =>
      den_un (r := fun x H Q => rIsX K [x, cv] H Q) ha (fun N H x u w Q f r e k => by
        cases r with
        | exc h fx m =>
          obtain ⟨b, rfl, hb⟩ := hk _ _ m fx w e
          exact ⟨_, _, cv, u', b, rfl, hcv, h, fx.ec, hb, (got_any k).bool⟩
        | _ => exact nomatch e) fun u e => bi_nx _ _ e
    have d1 : ∀ hc : c = "ValueError", Den K mg W (tCB (rIsX K) (tCons ta (tCons (tC (.ty "ValueError")) tNil))) false (fun ρ => (da ρ).bind fun x => biV (.isexc c) [x]) := fun hc => one _ _ (.ty _) fun d D m fx w e => by
      unfold isX at e
      split at e
      · cases e
        refine ⟨_, rfl, ?_⟩
        rw [fx.ve, hc]
        congr 1
        unfold excBelow
        rw [decide_eq_true (rfl : ("ValueError" : Str) = "ValueError"), Bool.or_true]
      · exact nomatch e
    have d2 : ∀ C, c ≠ "ValueError" → XOk K mg → c ∈ XN → mg c = some (.ref C) → Den K mg W (tCB (rIsX K) (tCons ta (tCons (tC (.ref C)) tNil))) false (fun ρ => (da ρ).bind fun x => biV (.isexc c) [x]) := fun C hc ok hm hg => one _ _ (.own C) fun d D m fx w e => by
      unfold isX at e
      split at e
      · cases e
        exact ⟨_, rfl, fx.is c C hm (ok c hm C hg).1⟩
      · exact nomatch e
    refine ⟨fun N H σ ρ w Q f e q k => ⟨fun hc => (d1 hc).ok N H σ ρ w Q f e q fun v H' s r _ => k v H' s r fun z => (nomatch z), fun hc C ok hm hg => (d2 C hc ok hm hg).ok N H σ ρ w Q f e q fun v H' s r _ => k v H' s r fun z => (nomatch z)⟩,
      fun N H σ ρ e' Q f e q k => ⟨fun hc => (d1 hc).exc N H σ ρ e' Q f e q k, fun hc C ok hm hg => (d2 C hc ok hm hg).exc N H σ ρ e' Q f e q k⟩⟩
  | lenSet =>
    refine den_un (r := fun x H Q => ∃ (l : Addr) (ns m : List Int), x = V.ref l ∧ SqT K H l (ns.map V.int) ∧ ns.length < 64 ∧ m.Nodup ∧ (∀ k, k ∈ m ↔ k ∈ ns) ∧ Q (.int (m.length : Nat)) H) ha (fun N H x u w Q f r e k => ?_) fun u c => bi_nx _ _ c
    cases r with
    | @tup a xs ws h hl r =>
      have e0 : (match intsOf ws with
        | some _ => if ws.length < 64 then Res.ok (Val.int (nubV ws).length) else .stuck
        | none => .stuck) = .ok w := e
      split at e0
      · rename_i ns e2
        split at e0
        · rename_i hlt
          cases e0
          have e3 := intsOf_eq e2
          subst e3
          have e4 := r.ints
          subst e4
          refine ⟨a, ns, nubZ ns, rfl, SqT.of h, by rwa [List.length_map] at hlt, nubZ_nodup, fun k => nubZ_mem, ?_⟩
          have e5 : (nubV (ns.map Val.int)).length = (nubZ ns).length := by rw [nubV_ints, List.length_map]
          rw [← e5]
          exact (got_any k).int
        · exact nomatch e0
      · exact nomatch e0
    | _ => exact nomatch e
  | isinLT =>
    have e0 : ∀ u : Val, biV .isinLT [u] = .stuck := fun u => by cases u <;> rfl
    refine ⟨fun N H σ ρ w Q f r e k => ?_, fun N H σ ρ c Q f r e k => ?_⟩
    · obtain ⟨u, e1, e⟩ := bind_ok e
      rw [e0] at e
      cases e
    · rcases bind_exc e with e | ⟨u, e1, e⟩
      · exact ha.exc N H σ ρ c _ f r e k
      · rw [e0] at e
        cases e
  | isinst t =>
    refine den_un (r := fun x H Q => rIsi K [x, .ty (tyName t)] H Q) ha (fun N H x u w Q f r e k => ?_) fun u c => bi_nx _ _ c
    have e1 := optR_ok e
    cases e2 : typeIs t u with
    | none =>
      rw [e2] at e1
      cases e1
    | some b =>
      rw [e2] at e1
      cases e1
      obtain ⟨T, h1, h2⟩ := isi_ok r e2
      exact ⟨x, .ty (tyName t), T, _, b, rfl, .ty _, h1, h2, (got_any k).bool⟩
  | _ => exact den_un (r := fun x H Q => rOff [x] H Q) ha (fun N H x u w Q f r e k => by first | (cases e; done) | (cases u <;> (cases e; done))) fun u c => bi_nx _ _ c
theorem b2_plain {f : Bi} {da db : Env → Res Val} (h : ∀ x, recvOk f x = true) : (fun ρ => (da ρ).bind fun x => if recvOk f x then (db ρ).bind fun y => biV f [x, y] else .stuck) = fun ρ => (da ρ).bind fun x => (db ρ).bind fun y => biV f [x, y] := by
  funext ρ
  congr 1
  funext x
  rw [if_pos (h x)]
theorem den_b2 (f : Bi) {ta tb : TE} {fa fb : Bool} {da db : Env → Res Val} (ha : Den K mg W ta fa da) (hb : Den K mg W tb fb db) :
    Den K mg W (rdB2 K f ta tb) false (fun ρ => (da ρ).bind fun x => if recvOk f x then (db ρ).bind fun y => biV f [x, y] else .stuck) := by
  have off : ∀ f : Bi, (∀ x y, biV f [x, y] = .stuck) → Den K mg W (tCB rOff (tCons ta (tCons tb tNil))) false (fun ρ => (da ρ).bind fun x => if recvOk f x then (db ρ).bind fun y => biV f [x, y] else .stuck) := fun f hs => by
    refine ⟨fun N H σ ρ w Q fh e q k => ?_, fun N H σ ρ c Q fh e q k => ?_⟩
    · obtain ⟨u, e1, q⟩ := bind_ok q
      split at q
      · obtain ⟨v, e2, q⟩ := bind_ok q
        rw [hs] at q
        exact nomatch q
      · exact nomatch q
    · rcases bind_exc q with q | ⟨u, e1, q⟩
      · exact ha.exc N H σ ρ c _ fh e q k
      · split at q
        · refine ha.ok N H σ ρ u _ fh e e1 fun x H1 s1 r1 _ => ?_
          rcases bind_exc q with q | ⟨v, e2, q⟩
          · exact hb.exc N H1 σ ρ c _ (fh.same s1) (e.same s1) q (k.same s1)
          · rw [hs] at q
            exact nomatch q
        · exact nomatch q
  cases f with
  | max2 =>
    rw [b2_plain fun _ => rfl]
    refine den_op (r := fun x y H Q => Evl.rMax2 [x, y] H Q) ha hb (fun N H x y u v w Q f rx ry e k => ?_) fun u v c => bi_nx _ _ c
    cases rx with
    | int i =>
      cases ry with
      | int j =>
        cases e
        exact ⟨i, j, rfl, (got_any k).int⟩
      | _ => exact nomatch e
    | _ => exact nomatch e
  | min2 =>
    rw [b2_plain fun _ => rfl]
    refine den_op (r := fun x y H Q => rMin2A [x, y] H Q) ha hb (fun N H x y u v w Q f rx ry e k => ?_) fun u v c => bi_nx _ _ c
    cases rx with
    | int i =>
      cases ry with
      | int j =>
        cases e
        exact ⟨i, j, rfl, (got_any k).int⟩
      | _ => exact nomatch e
    | _ => exact nomatch e
  | join =>
    refine ⟨fun N H σ ρ w Q fh e q k => ?_, fun N H σ ρ c Q fh e q k => ?_⟩
    · obtain ⟨u, e1, q⟩ := bind_ok q
      split at q
      · rename_i hr
        obtain ⟨v, e2, q⟩ := bind_ok q
        refine ha.ok N H σ ρ u _ fh e e1 fun x H1 s1 r1 _ => ?_
        cases r1 with
        | str a =>
          refine ⟨⟨a, rfl⟩, ?_⟩
          refine hb.ok N H1 σ ρ v _ (fh.same s1) (e.same s1) e2 fun y H2 s2 r2 _ => ?_
          cases r2 with
          | @lst p xs ws n h hl r =>
            have q0 : (match strsOf ws with
              | some l => if (l.map Str.length).sum + l.length * a.length ≤ 10000000 then Res.ok (Val.str (Str.join a l)) else .stuck
              | none => .stuck) = .ok w := q
            split at q0
            · rename_i l e3
              split at q0
              · rename_i c
                cases q0
                have e4 := strsOf_eq e3
                subst e4
                have e5 := r.strs
                subst e5
                exact ⟨a, p, l, rfl, rfl, .inl (SqL.of h), Nat.le_trans c (by decide), by rw [join_same]; exact k _ _ (s1.trans s2) (.str _) fun z => nomatch z⟩
              · exact nomatch q0
            · exact nomatch q0
          | _ => exact nomatch q
        | _ => exact nomatch hr
      · exact nomatch q
    · rcases bind_exc q with q | ⟨u, e1, q⟩
      · exact ha.exc N H σ ρ c _ fh e q k
      · split at q
        · rename_i hr
          refine ha.ok N H σ ρ u _ fh e e1 fun x H1 s1 r1 _ => ?_
          cases r1 with
          | str a =>
            refine ⟨⟨a, rfl⟩, ?_⟩
            rcases bind_exc q with q | ⟨v, e2, q⟩
            · exact hb.exc N H1 σ ρ c _ (fh.same s1) (e.same s1) q (k.same s1)
            · exact absurd q (bi_nx _ _ _)
          | _ => exact nomatch hr
        · exact nomatch q
  | split =>
    refine ⟨fun N H σ ρ w Q fh e q k => ?_, fun N H σ ρ c Q fh e q k => ?_⟩
    · obtain ⟨u, e1, q⟩ := bind_ok q
      split at q
      · rename_i hr
        obtain ⟨v, e2, q⟩ := bind_ok q
        refine ha.ok N H σ ρ u _ fh e e1 fun x H1 s1 r1 _ => ?_
        cases r1 with
        | str a =>
          refine ⟨⟨a, rfl⟩, ?_⟩
          refine hb.ok N H1 σ ρ v _ (fh.same s1) (e.same s1) e2 fun y H2 s2 r2 _ => ?_
          have q0 : (match oneSign v with
            | some c => if a.length + 2 ≤ cap then Res.ok (Val.lst ((splitL c a.cps.toList).map fun l : List Nat => Val.str ⟨l.toArray⟩)) else .stuck
            | none => .stuck) = .ok w := q
          split at q0
          · rename_i c e3
            split at q0
            · rename_i hc
              cases q0
              have e4 := oneSign_eq e3
              subst e4
              cases r2
              refine ⟨a, ⟨#[c]⟩, rfl, rfl, rfl, Nat.le_trans hc (by decide), ?_⟩
              rw [split_eq]
              intro p hp
              have e5 : (splitL c a.cps.toList).map (fun l : List Nat => Val.str ⟨l.toArray⟩) = ((splitL c a.cps.toList).map fun l : List Nat => (⟨l.toArray⟩ : Str)).map Val.str := by rw [List.map_map]; rfl
              rw [e5] at k
              have fh2 := (fh.same s1).same s2
              exact k _ _ ((s1.trans s2).trans (same_upd hp)) (.lst (fh2 p hp) upd_same (by rw [List.length_map, List.length_map]; exact Nat.le_trans (splitL_len _ _) (Nat.le_trans (Nat.succ_le_succ (Nat.le_refl _)) (Nat.le_of_succ_le hc))) (reps_strs _)) fun z => nomatch z
            · exact nomatch q0
          · exact nomatch q0
        | _ => exact nomatch hr
      · exact nomatch q
    · rcases bind_exc q with q | ⟨u, e1, q⟩
      · exact ha.exc N H σ ρ c _ fh e q k
      · split at q
        · rename_i hr
          refine ha.ok N H σ ρ u _ fh e e1 fun x H1 s1 r1 _ => ?_
          cases r1 with
          | str a =>
            refine ⟨⟨a, rfl⟩, ?_⟩
            rcases bind_exc q with q | ⟨v, e2, q⟩
            · exact hb.exc N H1 σ ρ c _ (fh.same s1) (e.same s1) q (k.same s1)
            · exact absurd q (bi_nx _ _ _)
          | _ => exact nomatch hr
        · exact nomatch q
  | count =>
    refine ⟨fun N H σ ρ w Q fh e q k => ?_, fun N H σ ρ c Q fh e q k => ?_⟩
    · obtain ⟨u, e1, q⟩ := bind_ok q
      split at q
      · rename_i hr
        obtain ⟨v, e2, q⟩ := bind_ok q
        refine ha.ok N H σ ρ u _ fh e e1 fun x H1 s1 r1 _ => ?_
        cases r1 with
        | lst n h hl r =>
          refine ⟨Or.inl ⟨rfl, _, SqL.of h⟩, ?_⟩
          refine hb.ok N H1 σ ρ v _ (fh.same s1) (e.same s1) e2 fun y H2 s2 r2 _ => ?_
          simp only [biV] at q
          split at q
          · rename_i hc
            rw [Bool.and_eq_true] at hc
            cases q
            have r' := r.same s2
            refine ⟨_, _, y, rfl, rfl, SqL.of (s2 _ _ h), flat_rep r2 hc.1, flats_rep r' hc.2, ?_⟩
            rw [count_rep r2 hc.1 r' hc.2]
            exact k _ _ (s1.trans s2) (.int _) fun z => nomatch z
          · exact nomatch q
        | _ => exact nomatch hr
      · exact nomatch q
    · rcases bind_exc q with q | ⟨u, e1, q⟩
      · exact ha.exc N H σ ρ c _ fh e q k
      · split at q
        · rename_i hr
          refine ha.ok N H σ ρ u _ fh e e1 fun x H1 s1 r1 _ => ?_
          cases r1 with
          | lst n h hl r =>
            refine ⟨Or.inl ⟨rfl, _, SqL.of h⟩, ?_⟩
            rcases bind_exc q with q | ⟨v, e2, q⟩
            · exact hb.exc N H1 σ ρ c _ (fh.same s1) (e.same s1) q (k.same s1)
            · exact absurd q (bi_nx _ _ _)
          | _ => exact nomatch hr
        · exact nomatch q
  | index =>
    refine ⟨fun N H σ ρ w Q fh e q k => ?_, fun N H σ ρ c Q fh e q k => ?_⟩
    · obtain ⟨u, e1, q⟩ := bind_ok q
      split at q
      · rename_i hr
        obtain ⟨v, e2, q⟩ := bind_ok q
        refine ha.ok N H σ ρ u _ fh e e1 fun x H1 s1 r1 _ => ?_
        cases r1 with
        | lst n h hl r =>
          refine ⟨Or.inl ⟨rfl, _, SqL.of h⟩, ?_⟩
          refine hb.ok N H1 σ ρ v _ (fh.same s1) (e.same s1) e2 fun y H2 s2 r2 _ => ?_
          simp only [biV] at q
          split at q
          · rename_i hc
            rw [Bool.and_eq_true] at hc
            have e3 := optR_ok q
            cases e4 : findV v _ 0 with
            | none =>
              rw [e4] at e3
              cases e3
            | some j =>
              rw [e4] at e3
              cases e3
              have r' := r.same s2
              obtain ⟨_, z, h2, h3, h4⟩ := findV_ok r2 hc.1 r' hc.2 e4
              exact ⟨_, _, y, j, z, rfl, rfl, SqL.of (s2 _ _ h), flat_rep r2 hc.1, flats_rep r' hc.2, h2, h3, h4, k _ _ (s1.trans s2) (.int _) fun z => nomatch z⟩
          · exact nomatch q
        | _ => exact nomatch hr
      · exact nomatch q
    · rcases bind_exc q with q | ⟨u, e1, q⟩
      · exact ha.exc N H σ ρ c _ fh e q k
      · split at q
        · rename_i hr
          refine ha.ok N H σ ρ u _ fh e e1 fun x H1 s1 r1 _ => ?_
          cases r1 with
          | lst n h hl r =>
            refine ⟨Or.inl ⟨rfl, _, SqL.of h⟩, ?_⟩
            rcases bind_exc q with q | ⟨v, e2, q⟩
            · exact hb.exc N H1 σ ρ c _ (fh.same s1) (e.same s1) q (k.same s1)
            · exact absurd q (bi_nx _ _ _)
          | _ => exact nomatch hr
        · exact nomatch q
  | _ => exact off _ fun x y => by first | rfl | (cases x <;> rfl) | (cases x <;> cases y <;> rfl)
theorem isD_rep {N : Addr → Prop} {H : Hp} {v : V} {k : Bool} {ks ws : List Val} (r : Rep K N H v (.dct k ks ws)) : ∃ a, v = .ref a ∧ IsD H a := by
  cases r with
  | dK n h hk hl r => exact ⟨_, rfl, .inl ⟨_, .inl h⟩⟩
  | dT n h hk hl r => exact ⟨_, rfl, .inr ⟨_, .inl h⟩⟩
theorem den_b3 (f : Bi) {ta tb tc : TE} {fa fb fc : Bool} {da db dc : Env → Res Val} (ha : Den K mg W ta fa da) (hb : Den K mg W tb fb db) (hc : Den K mg W tc fc dc) :
    Den K mg W (rdB3 f ta tb tc) false (fun ρ => (da ρ).bind fun x => if recvOk f x then (db ρ).bind fun y => (dc ρ).bind fun z => biV f [x, y, z] else .stuck) := by
  have off : ∀ f : Bi, (∀ x y z, biV f [x, y, z] = .stuck) → Den K mg W (tCB rOff (tCons ta (tCons tb (tCons tc tNil)))) false (fun ρ => (da ρ).bind fun x => if recvOk f x then (db ρ).bind fun y => (dc ρ).bind fun z => biV f [x, y, z] else .stuck) := fun f hs => by
    refine ⟨fun N H σ ρ w Q fh e q k => ?_, fun N H σ ρ c Q fh e q k => ?_⟩
    · obtain ⟨u, e1, q⟩ := bind_ok q
      split at q
      · obtain ⟨v, e2, q⟩ := bind_ok q
        obtain ⟨v, e2, q⟩ := bind_ok q
        rw [hs] at q
        exact nomatch q
      · exact nomatch q
    · rcases bind_exc q with q | ⟨u, e1, q⟩
      · exact ha.exc N H σ ρ c _ fh e q k
      · split at q
        · refine ha.ok N H σ ρ u _ fh e e1 fun x H1 s1 r1 _ => ?_
          rcases bind_exc q with q | ⟨v, e2, q⟩
          · exact hb.exc N H1 σ ρ c _ (fh.same s1) (e.same s1) q (k.same s1)
          · refine hb.ok N H1 σ ρ v _ (fh.same s1) (e.same s1) e2 fun y H2 s2 r2 _ => ?_
            rcases bind_exc q with q | ⟨v, e2, q⟩
            · exact hc.exc N H2 σ ρ c _ ((fh.same s1).same s2) ((e.same s1).same s2) q ((k.same s1).same s2)
            · rw [hs] at q
              exact nomatch q
        · exact nomatch q
  cases f with
  | get =>
    refine ⟨fun N H σ ρ w Q fh e q k => ?_, fun N H σ ρ c Q fh e q k => ?_⟩
    · obtain ⟨u, e1, q⟩ := bind_ok q
      split at q
      · rename_i hr
        obtain ⟨v, e2, q⟩ := bind_ok q
        obtain ⟨d, e3, q⟩ := bind_ok q
        refine ha.ok N H σ ρ u _ fh e e1 fun x H1 s1 r1 _ => ?_
        cases u with
        | dct kk ks ws =>
          obtain ⟨a, rfl, hd⟩ := isD_rep r1
          refine ⟨a, rfl, hd, ?_⟩
          refine hb.ok N H1 σ ρ v _ (fh.same s1) (e.same s1) e2 fun y H2 s2 r2 _ => ?_
          refine hc.ok N H2 σ ρ d _ ((fh.same s1).same s2) ((e.same s1).same s2) e3 fun z H3 s3 r3 _ => ?_
          simp only [biV] at q
          split at q
          · rename_i hf
            cases q
            obtain ⟨a', o, ea, g, g1, g2, _⟩ := dget_ok (r2.same s3) ((r1.same s2).same s3) hf
            cases ea
            refine ⟨o, g, ?_⟩
            cases o with
            | none =>
              rw [g2 rfl] at k
              exact k _ _ ((s1.trans s2).trans s3) r3 fun z => nomatch z
            | some v' =>
              obtain ⟨w', h1, h2⟩ := g1 v' rfl
              rw [h1] at k
              exact k _ _ ((s1.trans s2).trans s3) h2 fun z => nomatch z
          · exact nomatch q
        | _ => exact nomatch hr
      · exact nomatch q
    · rcases bind_exc q with q | ⟨u, e1, q⟩
      · exact ha.exc N H σ ρ c _ fh e q k
      · split at q
        · rename_i hr
          refine ha.ok N H σ ρ u _ fh e e1 fun x H1 s1 r1 _ => ?_
          cases u with
          | dct kk ks ws =>
            obtain ⟨a, rfl, hd⟩ := isD_rep r1
            refine ⟨a, rfl, hd, ?_⟩
            rcases bind_exc q with q | ⟨v, e2, q⟩
            · exact hb.exc N H1 σ ρ c _ (fh.same s1) (e.same s1) q (k.same s1)
            · refine hb.ok N H1 σ ρ v _ (fh.same s1) (e.same s1) e2 fun y H2 s2 r2 _ => ?_
              rcases bind_exc q with q | ⟨v, e2, q⟩
              · exact hc.exc N H2 σ ρ c _ ((fh.same s1).same s2) ((e.same s1).same s2) q ((k.same s1).same s2)
              · exact absurd q (bi_nx _ _ _)
          | _ => exact nomatch hr
        · exact nomatch q
  | _ => exact off _ fun x y z => by first | rfl | (cases x <;> rfl) | (cases x <;> cases y <;> rfl)
end
end Lh
set_option Elab.async false
set_option linter.all false
set_option maxRecDepth 100000
set_option maxHeartbeats 4000000
namespace Lh
open PySem L2
theorem rangeV_length : ∀ (n : Nat) (a : Int), (rangeV a n).length = n
  | 0, _ => rfl
  | n + 1, a => congrArg (· + 1) (rangeV_length n (a + 1))
theorem rangeV_get : ∀ (n : Nat) (a : Int) (i : Nat), i < n → (rangeV a n)[i]? = some (.int (a + (i : Nat)))
  | 0, _, _, h => absurd h (Nat.not_lt_zero _)
  | n + 1, a, 0, _ => by simp [rangeV]
  | n + 1, a, i + 1, h => by
    have e := rangeV_get n (a + 1) i (by omega)
    show (rangeV (a + 1) n)[i]? = _
    rw [e]
    congr 2
    omega
theorem enumV_length : ∀ (xs : List Val) (n : Nat), (enumV n xs).length = xs.length
  | [], _ => rfl
  | _ :: r, n => congrArg (· + 1) (enumV_length r (n + 1))
theorem enumV_get : ∀ (xs : List Val) (n i : Nat) (x : Val), xs[i]? = some x → (enumV n xs)[i]? = some (.tup [.int ((n + i : Nat) : Int), x])
  | [], _, _, _, h => by simp at h
  | y :: r, n, 0, x, h => by
    simp at h
    subst h
    rfl
  | y :: r, n, i + 1, x, h => by
    have e := enumV_get r (n + 1) i x (by simpa using h)
    show (enumV (n + 1) r)[i]? = _
    rw [e]
    congr 4
    omega
theorem zipV_length : ∀ xs ys : List Val, (zipV xs ys).length = min xs.length ys.length
  | [], _ => by simp [zipV]
  | _ :: _, [] => by simp [zipV]
  | x :: r, y :: s => by
    show (zipV r s).length + 1 = _
    rw [zipV_length r s]
    simp only [List.length_cons]
    omega
theorem zipV_get : ∀ (xs ys : List Val) (i : Nat) (x y : Val), xs[i]? = some x → ys[i]? = some y → (zipV xs ys)[i]? = some (.tup [x, y])
  | [], _, _, _, _, h, _ => by simp at h
  | _ :: _, [], _, _, _, _, h => by simp at h
  | x' :: r, y' :: s, 0, x, y, h1, h2 => by
    simp at h1 h2
    subst h1
    subst h2
    rfl
  | x' :: r, y' :: s, i + 1, x, y, h1, h2 => zipV_get r s i x y (by simpa using h1) (by simpa using h2)
section
variable {K : PySem.W.Frag} {mg : Str → Option Value} {W : WX}
theorem walk_enumT {a : Addr} {xs : List V} : L2.Walk (IteT K a) xs.length (fun H => SqT K H a xs) (YPair (fun i => some (.int (i : Nat))) (fun i => xs[i]?)) := by
  refine ⟨fun i _ hi q => ⟨xs, xs[i], q, by simp [hi]⟩, fun _ q => ⟨xs, q, Nat.le_refl _⟩, fun i H v H' _ q y => ?_⟩
  obtain ⟨T, x, h1, h2, h3, h4⟩ := y
  exact ⟨T, .int (i : Nat), x, h1, h2, h3, rfl, h4 xs q⟩
theorem walk_zipT {a b : Addr} {xs ys : List V} {n : Nat} (hn : n = min xs.length ys.length) : L2.Walk (RZ.ItzT K a b) n (fun H => SqT K H a xs ∧ SqT K H b ys) (YPair (fun i => xs[i]?) (fun i => ys[i]?)) := by
  subst hn
  refine ⟨fun i _ hi q => ?_, fun _ q => ⟨xs, ys, q.1, q.2, by omega⟩, fun i H v H' _ q y => ?_⟩
  · have h1 : i < xs.length := by omega
    have h2 : i < ys.length := by omega
    exact ⟨xs, ys, xs[i], ys[i], q.1, q.2, by simp [h1], by simp [h2]⟩
  · obtain ⟨T, x, z, h1, h2, h3, h4, h5⟩ := y
    exact ⟨T, x, z, h1, h2, h3, h4 xs q.1, h5 ys q.2⟩
theorem walk_zm {a b : Addr} {xs ys : List V} {n : Nat} (hn : n = min xs.length ys.length) : L2.Walk (ItzM K a b) n (fun H => SqL K H a xs ∧ SqT K H b ys) (YPair (fun i => xs[i]?) (fun i => ys[i]?)) := by
  subst hn
  refine ⟨fun i _ hi q => ?_, fun _ q => ⟨xs, ys, q.1, q.2, by omega⟩, fun i H v H' _ q y => ?_⟩
  · have h1 : i < xs.length := by omega
    have h2 : i < ys.length := by omega
    exact ⟨xs, ys, xs[i], ys[i], q.1, q.2, by simp [h1], by simp [h2]⟩
  · obtain ⟨T, x, z, h1, h2, h3, h4, h5⟩ := y
    exact ⟨T, x, z, h1, h2, h3, h4 xs q.1, h5 ys q.2⟩
theorem items_seq {N : Addr → Prop} {H : Hp} {v : V} {u : Val} {ws : List Val} (r : Rep K N H v u) (e : itemsOf u = some ws) :
    ∃ p xs, v = .ref p ∧ Reps K N H xs ws ∧ ws.length ≤ cap ∧ ((SqL K H p xs ∧ ((N p ∧ H p = some (.lst xs)) ∨ FrzL K H p xs)) ∨ H p = some (.tup xs)) := by
  cases r with
  | tup h hl r =>
    cases e
    exact ⟨_, _, rfl, r, hl, .inr h⟩
  | lst n h hl r =>
    cases e
    exact ⟨_, _, rfl, r, hl, .inl ⟨SqL.of h, .inl ⟨n, h⟩⟩⟩
  | scr h hl r =>
    cases e
    exact ⟨_, _, rfl, r, hl, .inl ⟨h.sq, .inr h⟩⟩
  | _ => cases e
theorem pair_rep {N' : Addr → Prop} {H1 H2 : Hp} {T : Addr} {x y : V} {u v : Val} (hT : H1 T = none) (e : H2 = upd H1 T (.tup [x, y])) (rx : Rep K N' H1 x u) (ry : Rep K N' H1 y v) : Same H1 H2 ∧ Rep K N' H2 (.ref T) (.tup [u, v]) := by
  subst e
  exact ⟨same_upd hT, .tup upd_same (show 2 ≤ cap by decide) (.cons (rx.same (same_upd hT)) (.cons (ry.same (same_upd hT)) .nil))⟩
/-- stands while what is marked stays -/
def Firm (N : Addr → Prop) (H' : Hp) (G : Hp → Prop) : Prop := ∀ N' : Addr → Prop, (∀ a, N a → H' a ≠ none → N' a) → ∀ H1 H2, Keep N' H1 H2 → G H1 → G H2
theorem firm_lst {N : Addr → Prop} {H : Hp} {p : Addr} {xs : List V} (n : N p) (h : H p = some (.lst xs)) : Firm N H fun H => H p = some (.lst xs) :=
  fun N' hn H1 H2 k g => k _ _ g (.inl (hn p n (by rw [h]; exact fun z => nomatch z)))
theorem firm_frz {N : Addr → Prop} {H : Hp} {p : Addr} {xs : List V} : Firm N H fun H => FrzL K H p xs := fun N' hn H1 H2 k g => g.keep k
theorem firm_tup {N : Addr → Prop} {H : Hp} {p : Addr} {xs : List V} : Firm N H fun H => H p = some (.tup xs) := fun N' hn H1 H2 k g => k _ _ g (.inr trivial)
theorem Firm.and {N : Addr → Prop} {H : Hp} {G G' : Hp → Prop} (a : Firm N H G) (b : Firm N H G') : Firm N H fun H => G H ∧ G' H := fun N' hn H1 H2 k g => ⟨a N' hn H1 H2 k g.1, b N' hn H1 H2 k g.2⟩
theorem stays_at {N : Addr → Prop} {H : Hp} {items : List Val} {xs : List V} {G : Hp → Prop} (g : Firm N H G) (r : Reps K N H xs items) : Stays K N H items G (YAt xs) := fun N' hn =>
  ⟨g N' hn, fun i H1 x H2 hi kp _ y => by
    obtain ⟨rfl, hx⟩ := y
    obtain ⟨w, hw, rw'⟩ := r.getV hx
    exact ⟨w, hw, Same.refl _, rw'.keep hn kp⟩⟩
theorem stays_pair {N : Addr → Prop} {H : Hp} {items : List Val} {f g : Nat → Option V} {G : Hp → Prop} (gf : Firm N H G)
    (h : ∀ i x y, f i = some x → g i = some y → ∃ u v, items[i]? = some (.tup [u, v]) ∧ Rep K N H x u ∧ Rep K N H y v) : Stays K N H items G (YPair f g) := fun N' hn =>
  ⟨gf N' hn, fun i H1 v H2 hi kp _ y => by
    obtain ⟨T, x, z, rfl, hT, e, hx, hz⟩ := y
    obtain ⟨u, w, e1, r1, r2⟩ := h i x z hx hz
    obtain ⟨s, r⟩ := pair_rep hT e (r1.keep hn kp) (r2.keep hn kp)
    exact ⟨_, e1, s, r⟩⟩
theorem itemsR_ok {v : Val} {ws : List Val} (h : itemsR v = .ok ws) : itemsOf v = some ws := by
  unfold itemsR at h
  split at h
  · rename_i e
    cases h
    exact e
  · exact nomatch h
theorem itemsR_nx {v : Val} {c : Str} : itemsR v ≠ .exc c := by
  intro h
  unfold itemsR at h
  split at h <;> (cases h; done)
theorem den_seq {ta : TE} {fa : Bool} {da : Env → Res Val} (ha : Den K mg W ta fa da) : DenS K mg W (iSeq K ta) (fun ρ => (da ρ).bind itemsR) :=
  ⟨fun N H σ ρ items R f e q k => by
    obtain ⟨u, e1, q⟩ := bind_ok q
    refine ha.ok N H σ ρ u _ f e e1 fun x H1 s1 r1 _ => ?_
    obtain ⟨p, xs, rfl, r, hl, hc⟩ := items_seq r1 (itemsR_ok q)
    have e2 := r.length
    rcases hc with ⟨sq, hc⟩ | hc
    · refine ⟨p, rfl, .inl ⟨⟨xs, sq⟩, ?_⟩⟩
      rcases hc with ⟨n, h⟩ | h
      · exact k _ H1 (fun H => H p = some (.lst xs)) (YAt xs) s1 hl (by rw [← e2]; exact walk_list.mono (fun H h => SqL.of h) fun _ _ _ _ _ _ y => y) h (stays_at (firm_lst n h) r)
      · exact k _ H1 (fun H => FrzL K H p xs) (YAt xs) s1 hl (by rw [← e2]; exact walk_list.mono (fun H h => h.sq) fun _ _ _ _ _ _ y => y) h (stays_at firm_frz r)
    · refine ⟨p, rfl, .inr ⟨⟨xs, SqT.of hc⟩, ?_⟩⟩
      exact k _ H1 (fun H => H p = some (.tup xs)) (YAt xs) s1 hl (by rw [← e2]; exact walk_tup.mono (fun H h => SqT.of h) fun _ _ _ _ _ _ y => y) hc (stays_at firm_tup r),
  fun N H σ ρ c R f e q k => by
    rcases bind_exc q with q | ⟨u, e1, q⟩
    · exact ha.exc N H σ ρ c _ f e q k
    · exact absurd q itemsR_nx⟩
theorem rangeR_ok {a b : Int} {items : List Val} (h : rangeR a b = .ok items) : (-(2 ^ 62) ≤ a ∧ a < 2 ^ 62 ∧ -(2 ^ 62) ≤ b ∧ b < 2 ^ 62 ∧ (b - a).toNat ≤ cap) ∧ items = rangeV a (b - a).toNat := by
  unfold rangeR at h
  split at h
  · cases h
    exact ⟨by assumption, rfl⟩
  · exact nomatch h
theorem rangeR_nx {a b : Int} {c : Str} : rangeR a b ≠ .exc c := by
  intro h
  unfold rangeR at h
  split at h <;> (cases h; done)
theorem stays_range {N : Addr → Prop} {H : Hp} {a : Int} {n : Nat} : Stays K N H (rangeV a n) (fun _ => True) (YFn fun i => .int (a + i)) := fun N' hn =>
  ⟨fun _ _ _ _ => trivial, fun i H1 x H2 hi _ _ y => by
    obtain ⟨rfl, rfl⟩ := y
    exact ⟨.int (a + i), rangeV_get n a i (by rwa [rangeV_length] at hi), Same.refl _, .int _⟩⟩
theorem stays_signs {N : Addr → Prop} {H : Hp} {z : Str} : Stays K N H (z.cps.toList.map fun c => .str ⟨#[c]⟩) (fun _ => True) (fun i H v H' => H' = H ∧ ∃ c, z.cps[i]? = some c ∧ v = .str ⟨#[c]⟩) := fun N' hn =>
  ⟨fun _ _ _ _ => trivial, fun i H1 x H2 hi _ _ y => by
    obtain ⟨rfl, c, hc, rfl⟩ := y
    refine ⟨.str ⟨#[c]⟩, ?_, Same.refl _, .str _⟩
    rw [List.getElem?_map, Array.getElem?_toList, hc]
    rfl⟩
theorem den_signs {ta : TE} {fa : Bool} {da : Env → Res Val} (ha : Den K mg W ta fa da) : DenS K mg W (iStr ta) (fun ρ => (da ρ).bind signsR) :=
  ⟨fun N H σ ρ items R f e q k => by
    obtain ⟨u, e1, q⟩ := bind_ok q
    refine ha.ok N H σ ρ u _ f e e1 fun x H1 s1 r1 _ => ?_
    cases r1 with
    | str z =>
      have q0 : (if z.length ≤ cap then Res.ok (z.cps.toList.map fun c => Val.str ⟨#[c]⟩) else .stuck) = .ok items := q
      split at q0
      · rename_i hl
        cases q0
        refine ⟨z, rfl, ?_⟩
        have el : (z.cps.toList.map fun c => Val.str ⟨#[c]⟩).length = z.cps.size := by rw [List.length_map, Array.length_toList]
        exact k _ H1 _ _ s1 (by rw [el]; exact hl) (by rw [el]; exact walk_str) trivial stays_signs
      · exact nomatch q0
    | _ => exact (nomatch q),
  fun N H σ ρ c R f e q k => by
    rcases bind_exc q with q | ⟨u, e1, q⟩
    · exact ha.exc N H σ ρ c _ f e q k
    · cases u with
      | str z =>
        have q0 : (if z.length ≤ cap then Res.ok (z.cps.toList.map fun c => Val.str ⟨#[c]⟩) else .stuck) = .exc c := q
        split at q0 <;> exact nomatch q0
      | _ => exact (nomatch q)⟩
theorem den_range1 {ta : TE} {fa : Bool} {da : Env → Res Val} (ha : Den K mg W ta fa da) : DenS K mg W (iRng1 (tCons ta tNil)) (fun ρ => (da ρ).bind fun x => match x with
    | .int i => rangeR 0 i
    | _ => .stuck) :=
  ⟨fun N H σ ρ items R f e q k => by
    obtain ⟨u, e1, q⟩ := bind_ok q
    refine ha.ok N H σ ρ u _ f e e1 fun x H1 s1 r1 _ => ?_
    cases r1 with
    | int j =>
      obtain ⟨⟨h1, h2, h3, h4, h5⟩, rfl⟩ := rangeR_ok q
      refine ⟨j, rfl, h3, h4, ?_⟩
      rw [Int.sub_zero] at h5 k
      exact k _ H1 _ _ s1 (by rw [rangeV_length]; exact h5) (by rw [rangeV_length]; exact walk_range) trivial stays_range
    | _ => exact (nomatch q),
  fun N H σ ρ c R f e q k => by
    rcases bind_exc q with q | ⟨u, e1, q⟩
    · exact ha.exc N H σ ρ c _ f e q k
    · split at q
      · exact absurd q rangeR_nx
      · exact nomatch q⟩
theorem den_range2 {ta tb : TE} {fa fb : Bool} {da db : Env → Res Val} (ha : Den K mg W ta fa da) (hb : Den K mg W tb fb db) : DenS K mg W (iRng2 (tCons ta (tCons tb tNil))) (fun ρ => (da ρ).bind fun x => (db ρ).bind fun y => match x, y with
    | .int i, .int j => rangeR i j
    | _, _ => .stuck) :=
  ⟨fun N H σ ρ items R f e q k => by
    obtain ⟨u, e1, q⟩ := bind_ok q
    obtain ⟨v, e2, q⟩ := bind_ok q
    refine ha.ok N H σ ρ u _ f e e1 fun x H1 s1 r1 _ => ?_
    refine hb.ok N H1 σ ρ v _ (f.same s1) (e.same s1) e2 fun y H2 s2 r2 _ => ?_
    cases r1 with
    | int i =>
      cases r2 with
      | int j =>
        obtain ⟨⟨h1, h2, h3, h4, h5⟩, rfl⟩ := rangeR_ok q
        refine ⟨i, j, rfl, ⟨h1, h2, h3, h4⟩, ?_⟩
        exact k _ H2 _ _ (s1.trans s2) (by rw [rangeV_length]; exact h5) (by rw [rangeV_length]; exact walk_range) trivial stays_range
      | _ => exact nomatch q
    | _ => exact (nomatch q),
  fun N H σ ρ c R f e q k => by
    rcases bind_exc q with q | ⟨u, e1, q⟩
    · exact ha.exc N H σ ρ c _ f e q k
    · refine ha.ok N H σ ρ u _ f e e1 fun x H1 s1 r1 _ => ?_
      rcases bind_exc q with q | ⟨v, e2, q⟩
      · exact hb.exc N H1 σ ρ c _ (f.same s1) (e.same s1) q (k.same s1)
      · split at q
        · exact absurd q rangeR_nx
        · exact nomatch q⟩
theorem den_enum {ta : TE} {fa : Bool} {da : Env → Res Val} (ha : Den K mg W ta fa da) : DenS K mg W (iEnumA K (tCons ta tNil)) (fun ρ => (da ρ).bind fun x => (itemsR x).bind fun xs => .ok (enumV 0 xs)) :=
  ⟨fun N H σ ρ items R f e q k => by
    obtain ⟨u, e1, q⟩ := bind_ok q
    obtain ⟨ws, e2, q⟩ := bind_ok q
    cases q
    refine ha.ok N H σ ρ u _ f e e1 fun x H1 s1 r1 _ => ?_
    obtain ⟨p, xs, rfl, r, hl, hc⟩ := items_seq r1 (itemsR_ok e2)
    have e3 := r.length
    have hl' : (enumV 0 ws).length ≤ cap := by rw [enumV_length]; exact hl
    have pr : ∀ (i : Nat) (x y : V), some (V.int (i : Nat)) = some x → xs[i]? = some y → ∃ u v, (enumV 0 ws)[i]? = some (.tup [u, v]) ∧ Rep K N H1 x u ∧ Rep K N H1 y v := fun i x y hx hy => by
      cases hx
      obtain ⟨w, hw, rw'⟩ := r.getV hy
      have e4 := enumV_get ws 0 i w hw
      rw [Nat.zero_add] at e4
      exact ⟨_, _, e4, .int _, rw'⟩
    rcases hc with ⟨sq, hc⟩ | hc
    · refine ⟨p, rfl, .inl ⟨⟨xs, sq⟩, ?_⟩⟩
      rcases hc with ⟨n, h⟩ | h
      · exact k _ H1 (fun H => H p = some (.lst xs)) _ s1 hl' (by rw [enumV_length, ← e3]; exact walk_enum.mono (fun H h => SqL.of h) fun _ _ _ _ _ _ y => y) h (stays_pair (firm_lst n h) pr)
      · exact k _ H1 (fun H => FrzL K H p xs) _ s1 hl' (by rw [enumV_length, ← e3]; exact walk_enum.mono (fun H h => h.sq) fun _ _ _ _ _ _ y => y) h (stays_pair firm_frz pr)
    · refine ⟨p, rfl, .inr ⟨⟨xs, SqT.of hc⟩, ?_⟩⟩
      exact k _ H1 (fun H => H p = some (.tup xs)) _ s1 hl' (by rw [enumV_length, ← e3]; exact walk_enumT.mono (fun H h => SqT.of h) fun _ _ _ _ _ _ y => y) hc (stays_pair firm_tup pr),
  fun N H σ ρ c R f e q k => by
    rcases bind_exc q with q | ⟨u, e1, q⟩
    · exact ha.exc N H σ ρ c _ f e q k
    · rcases bind_exc q with q | ⟨v, e2, q⟩
      · exact absurd q itemsR_nx
      · exact nomatch q⟩
theorem den_zip {ta tb : TE} {fa fb : Bool} {da db : Env → Res Val} (ha : Den K mg W ta fa da) (hb : Den K mg W tb fb db) : DenS K mg W (iZipM K (tCons ta (tCons tb tNil))) (fun ρ => (da ρ).bind fun x => (db ρ).bind fun y => zipR x y) :=
  ⟨fun N H σ ρ items R f e q k => by
    obtain ⟨u, e1, q⟩ := bind_ok q
    obtain ⟨v, e2, q⟩ := bind_ok q
    refine ha.ok N H σ ρ u _ f e e1 fun x H1 s1 r1 _ => ?_
    refine hb.ok N H1 σ ρ v _ (f.same s1) (e.same s1) e2 fun y H2 s2 r2 _ => ?_
    have r1 := r1.same s2
    unfold zipR at q
    split at q
    · rename_i us vs
      cases q
      cases r1 with
      | @tup a xs _ ha' hla ra =>
        cases r2 with
        | @tup b ys _ hb' hlb rb =>
          refine ⟨a, b, xs, ys, rfl, .inr (.inl ⟨SqT.of ha', SqT.of hb', ?_⟩)⟩
          refine k _ H2 (fun H => H a = some (.tup xs) ∧ H b = some (.tup ys)) _ (s1.trans s2) (by rw [zipV_length]; omega) ((walk_zipT (by rw [zipV_length, ra.length, rb.length])).mono (fun H h => ⟨SqT.of h.1, SqT.of h.2⟩) fun _ _ _ _ _ _ y => y) ⟨ha', hb'⟩ (stays_pair (firm_tup.and firm_tup) fun i x y hx hy => ?_)
          obtain ⟨w, hw, rw'⟩ := ra.getV hx
          obtain ⟨z, hz, rz⟩ := rb.getV hy
          exact ⟨w, z, zipV_get _ _ i w z hw hz, rw', rz⟩
    · rename_i us vs
      cases q
      cases r1 with
      | @lst a xs _ na ha' hla ra =>
        cases r2 with
        | @lst b ys _ nb hb' hlb rb =>
          refine ⟨a, b, xs, ys, rfl, .inl ⟨SqL.of ha', SqL.of hb', ?_⟩⟩
          refine k _ H2 (fun H => H a = some (.lst xs) ∧ H b = some (.lst ys)) _ (s1.trans s2) (by rw [zipV_length]; omega) ((walk_zip (by rw [zipV_length, ra.length, rb.length])).mono (fun H h => ⟨SqL.of h.1, SqL.of h.2⟩) fun _ _ _ _ _ _ y => y) ⟨ha', hb'⟩ (stays_pair ((firm_lst na ha').and (firm_lst nb hb')) fun i x y hx hy => ?_)
          obtain ⟨w, hw, rw'⟩ := ra.getV hx
          obtain ⟨z, hz, rz⟩ := rb.getV hy
          exact ⟨w, z, zipV_get _ _ i w z hw hz, rw', rz⟩
    · rename_i us vs
      cases q
      cases r1 with
      | @lst a xs _ na ha' hla ra =>
        cases r2 with
        | @tup b ys _ hb' hlb rb =>
          refine ⟨a, b, xs, ys, rfl, .inr (.inr ⟨SqL.of ha', SqT.of hb', ?_⟩)⟩
          refine k _ H2 (fun H => H a = some (.lst xs) ∧ H b = some (.tup ys)) _ (s1.trans s2) (by rw [zipV_length]; omega) ((walk_zm (by rw [zipV_length, ra.length, rb.length])).mono (fun H h => ⟨SqL.of h.1, SqT.of h.2⟩) fun _ _ _ _ _ _ y => y) ⟨ha', hb'⟩ (stays_pair ((firm_lst na ha').and firm_tup) fun i x y hx hy => ?_)
          obtain ⟨w, hw, rw'⟩ := ra.getV hx
          obtain ⟨z, hz, rz⟩ := rb.getV hy
          exact ⟨w, z, zipV_get _ _ i w z hw hz, rw', rz⟩
    · exact (nomatch q),
  fun N H σ ρ c R f e q k => by
    rcases bind_exc q with q | ⟨u, e1, q⟩
    · exact ha.exc N H σ ρ c _ f e q k
    · refine ha.ok N H σ ρ u _ f e e1 fun x H1 s1 r1 _ => ?_
      rcases bind_exc q with q | ⟨v, e2, q⟩
      · exact hb.exc N H1 σ ρ c _ (f.same s1) (e.same s1) q (k.same s1)
      · exfalso
        unfold zipR at q
        split at q <;> exact nomatch q⟩
end
end Lh
set_option Elab.async false
set_option linter.all false
set_option maxRecDepth 100000
set_option maxHeartbeats 4000000
namespace Lh
open PySem L2
theorem kill_length : ∀ (is : List Nat) (ρ : Env), (kill ρ is).length = ρ.length
  | [], _ => rfl
  | i :: is, ρ => by
    show (kill (ρ.set i .non) is).length = _
    rw [kill_length is, List.length_set]
theorem kill_get {i : Nat} {w : Val} : ∀ (is : List Nat) (ρ : Env), slotV (kill ρ is)[i]? = .ok w → i ∉ is ∧ slotV ρ[i]? = .ok w
  | [], ρ, h => ⟨List.not_mem_nil, h⟩
  | j :: is, ρ, h => by
    obtain ⟨h1, h2⟩ := kill_get is (ρ.set j .non) h
    rw [List.getElem?_set] at h2
    split at h2
    · split at h2 <;> exact nomatch h2
    · rename_i hne
      exact ⟨fun hm => by
        rcases List.mem_cons.mp hm with e | e
        · exact hne e.symm
        · exact h1 e, h2⟩
theorem wipe_get {i : Nat} (σ : St) : ∀ vs : List Nat, (wipe σ vs)[i]? = if i ∈ vs then σ[i]?.map (fun _ => none) else σ[i]?
  | [] => by simp [wipe]
  | v :: vs => by
    show ((wipe σ vs).set v none)[i]? = _
    rw [List.getElem?_set, wipe_length, wipe_get σ vs]
    by_cases h : v = i
    · subst h
      rw [if_pos rfl, if_pos (List.mem_cons_self)]
      by_cases hl : v < σ.length
      · rw [if_pos hl, List.getElem?_eq_getElem hl]
        rfl
      · rw [if_neg hl, List.getElem?_eq_none (by omega)]
        rfl
    · rw [if_neg h]
      have e : (i ∈ v :: vs) = (i ∈ vs) := by
        rw [List.mem_cons]
        exact propext ⟨fun q => q.resolve_left fun z => h z.symm, .inr⟩
      simp only [e]
theorem wipe_set {σ : St} {i : Nat} {x : Option V} {own : List Nat} (h : i ∈ own) : wipe (σ.set i x) own = wipe σ own := by
  refine List.ext_getElem? fun j => ?_
  rw [wipe_get, wipe_get]
  by_cases hj : j ∈ own
  · rw [if_pos hj, if_pos hj, List.getElem?_set]
    split
    · rename_i e
      subst e
      split
      · rename_i hl
        rw [List.getElem?_eq_getElem hl]
        rfl
      · rename_i hl
        rw [List.getElem?_eq_none (by omega)]
    · rfl
  · rw [if_neg hj, if_neg hj, List.getElem?_set, if_neg fun e => hj (by rw [← e]; exact h)]
theorem wipe_wipe (σ : St) (own : List Nat) : wipe (wipe σ own) own = wipe σ own := by
  refine List.ext_getElem? fun j => ?_
  rw [wipe_get, wipe_get]
  by_cases hj : j ∈ own
  · rw [if_pos hj, if_pos hj]
    cases σ[j]? <;> rfl
  · rw [if_neg hj, if_neg hj]
section
variable {K : PySem.W.Frag} {mg : Str → Option Value} {W : WX}
theorem kill_any : ∀ (is : List Nat) (ρ : Env) {i : Nat} {s : Slot}, (kill ρ is)[i]? = some s → (s = .non) ∨ (i ∉ is ∧ ρ[i]? = some s)
  | [], ρ, i, s, h => .inr ⟨List.not_mem_nil, h⟩
  | j :: is, ρ, i, s, h => by
    rcases kill_any is (ρ.set j .non) h with q | ⟨q1, q2⟩
    · exact .inl q
    · rw [List.getElem?_set] at q2
      by_cases e : j = i
      · rw [if_pos e] at q2
        split at q2
        · cases q2
          exact .inl rfl
        · cases q2
      · rw [if_neg e] at q2
        exact .inr ⟨fun z => (List.mem_cons.mp z).elim (fun w => e w.symm) q1, q2⟩
theorem kill_flds (is : List Nat) (ρ : Env) {i : Nat} {p : List Str × List Val} (h : flds (kill ρ is)[i]? = some p) : i ∉ is ∧ flds ρ[i]? = some p := by
  cases q : (kill ρ is)[i]? with
  | none =>
    rw [q] at h
    cases h
  | some s =>
    rcases kill_any is ρ q with z | ⟨z1, z2⟩
    · rw [q, z] at h
      cases h
    · rw [q] at h
      rw [z2]
      exact ⟨z1, h⟩
theorem Ev.wipe {N : Addr → Prop} {H : Hp} {σ : St} {ρ : Env} (e : Ev K N H σ ρ) (is : List Nat) : Ev K N H (wipe σ is) (kill ρ is) :=
  ⟨by rw [wipe_length, kill_length]; exact e.len, fun i w h => by
    obtain ⟨h1, h2⟩ := kill_get is ρ h
    rw [wipe_get, if_neg h1]
    exact e.at' i w h2, fun i p h => by
    obtain ⟨h1, h2⟩ := kill_flds is ρ h
    rw [wipe_get, if_neg h1]
    exact e.ob i p h2⟩
theorem Ev.set {N : Addr → Prop} {H : Hp} {σ : St} {ρ : Env} {v : V} {w : Val} (e : Ev K N H σ ρ) (i : Nat) (r : Rep K N H v w) : Ev K N H (σ.set i (some v)) (ρ.set i (.val w)) :=
  ⟨by rw [List.length_set, List.length_set]; exact e.len, fun j u h => by
    rw [List.getElem?_set] at h ⊢
    by_cases hj : i = j
    · subst hj
      rw [if_pos rfl] at h ⊢
      rw [e.len]
      split at h
      · rename_i hl
        rw [if_pos hl]
        cases h
        exact ⟨v, rfl, r⟩
      · exact nomatch h
    · rw [if_neg hj] at h ⊢
      exact e.at' j u h, fun j p h => by
    rw [List.getElem?_set] at h ⊢
    by_cases hj : i = j
    · subst hj
      rw [if_pos rfl] at h ⊢
      rw [e.len]
      split at h
      · rename_i hl
        rw [if_pos hl]
        cases r with
        | obj n h1 hm hp r =>
          cases h
          exact ⟨_, _, _, rfl, h1, hm, hp, r⟩
        | _ => exact nomatch h
      · exact nomatch h
    · rw [if_neg hj] at h ⊢
      exact e.ob j p h⟩
theorem Ev.more {N N' : Addr → Prop} {H H' : Hp} {σ : St} {ρ : Env} (e : Ev K N H σ ρ) (hn : ∀ a, N a → H a ≠ none → N' a) (k : Same H H') : Ev K N' H' σ ρ :=
  ⟨e.len, fun i w h => let ⟨v, a, b⟩ := e.at' i w h; ⟨v, a, b.keep hn (.of k)⟩, fun i p q => let ⟨a, dx, fl, h1, h2, h3, h4, h5⟩ := e.ob i p q; ⟨a, dx, fl, h1, k _ _ h2, h3, h4, h5.keep hn (.of k)⟩⟩
theorem den_names {N : Addr → Prop} {H : Hp} : ∀ {is : List Nat} {xs : List V} {ws : List Val} {σ : St} {ρ ρ' : Env} {Q : St → Hp → Prop}, Ev K N H σ ρ → Reps K N H xs ws → bindAll ρ is ws = some ρ' →
    (∀ σ2, Ev K N H σ2 ρ' → (∀ own : List Nat, (∀ i ∈ is, i ∈ own) → wipe σ2 own = wipe σ own) → Q σ2 H) → gNames is xs σ H Q
  | [], _, _, σ, ρ, ρ', Q, e, .nil, h, k => by
    cases h
    exact ⟨rfl, k σ e fun _ _ => rfl⟩
  | i :: is, _, _, σ, ρ, ρ', Q, e, @Reps.cons _ _ _ v vs w ws r t, h, k => by
    refine ⟨v, vs, rfl, ?_⟩
    exact den_names (e.set i r) t h fun σ2 e2 hw => k σ2 e2 fun own ho => by
      rw [hw own fun j hj => ho j (List.mem_cons_of_mem _ hj), wipe_set (ho i List.mem_cons_self)]
  | [], _, _, σ, ρ, ρ', Q, e, .cons _ _, h, k => nomatch h
  | _ :: _, _, _, σ, ρ, ρ', Q, e, .nil, h, k => nomatch h
def tgIn : Tg → List Nat → Bool
  | .name i, own => own.contains i
  | .tup is, own => is.all own.contains
  | .pair a b, own => tgIn a own && tgIn b own
theorem den_tg {N : Addr → Prop} {H : Hp} {tg : Tg} {x : V} {w : Val} {σ : St} {ρ ρ' : Env} {Q : St → Hp → Prop} (e : Ev K N H σ ρ) (r : Rep K N H x w) (h : bindT tg w ρ = some ρ')
    (k : ∀ σ2, Ev K N H σ2 ρ' → (∀ own, tgIn tg own = true → wipe σ2 own = wipe σ own) → Q σ2 H) : rdTg K tg x σ H Q := by
  induction tg generalizing x w σ ρ ρ' Q with
  | name i =>
    cases h
    exact k _ (e.set i r) fun own ho => wipe_set (by simpa [tgIn] using ho)
  | tup is =>
    cases r with
    | @tup a xs ws h1 hl r =>
      have hlen : ∀ (is : List Nat) (ws : List Val) (ρ : Env), bindAll ρ is ws = some ρ' → ws.length = is.length := by
        intro is
        induction is with
        | nil =>
          intro ws ρ h
          cases ws with
          | nil => rfl
          | cons _ _ => exact nomatch h
        | cons i is ih =>
          intro ws ρ h
          cases ws with
          | nil => exact nomatch h
          | cons w ws => exact congrArg (· + 1) (ih ws _ h)
      refine ⟨a, xs, rfl, SqT.of h1, by rw [r.length]; exact hlen is ws ρ h, ?_⟩
      exact den_names e r h fun σ2 e2 hw => k σ2 e2 fun own ho => hw own fun i hi => by
        have := List.all_eq_true.mp ho i hi
        simpa using this
    | _ => exact nomatch h
  | pair a b iha ihb =>
    cases r with
    | @tup p xs ws h1 hl r =>
      match ws, r, h with
      | [u, v], .cons ru (.cons rv .nil), h =>
        obtain ⟨ρ1, e1, h⟩ := Option.bind_eq_some_iff.mp (show (bindT a u ρ).bind (fun ρ' => bindT b v ρ') = some ρ' from h)
        refine ⟨p, _, rfl, SqT.of h1, rfl, _, _, rfl, ?_⟩
        refine iha e ru e1 fun σ1 e2 hw1 => ⟨_, _, rfl, ?_⟩
        refine ihb e2 rv h fun σ2 e3 hw2 => ⟨rfl, ?_⟩
        refine k σ2 e3 fun own ho => ?_
        have ho' : (tgIn a own && tgIn b own) = true := ho
        rw [Bool.and_eq_true] at ho'
        rw [hw2 own ho'.2, hw1 own ho'.1]
    | _ => exact nomatch h
theorem asB_ok {α : Type} {f : Bool → Res α} {v : Val} {a : α} (h : asB f v = .ok a) : ∃ b, v = .bool b ∧ f b = .ok a := by
  cases v with
  | bool b => exact ⟨b, rfl, h⟩
  | _ => exact nomatch h
theorem asB_exc {α : Type} {f : Bool → Res α} {v : Val} {c : Str} (h : asB f v = .exc c) : ∃ b, v = .bool b ∧ f b = .exc c := by
  cases v with
  | bool b => exact ⟨b, rfl, h⟩
  | _ => exact nomatch h
theorem compL_nx {f : Val → Res (Option Val)} {c : Str} : ∀ {l : List Val}, compL f l ≠ .exc c
  | [], h => nomatch h
  | x :: xs, h => by
    unfold compL at h
    split at h
    · split at h <;> (cases h; done)
    · (cases h; done)
theorem compL_cons {f : Val → Res (Option Val)} {x : Val} {xs ws : List Val} (h : compL f (x :: xs) = .ok ws) : ∃ o ys, f x = .ok o ∧ compL f xs = .ok ys ∧ ws = match o with
    | some y => y :: ys
    | none => ys := by
  unfold compL at h
  cases e : f x with
  | ok o =>
    rw [e] at h
    cases e2 : compL f xs with
    | ok ys =>
      rw [e2] at h
      cases h
      exact ⟨o, ys, rfl, rfl, rfl⟩
    | exc c =>
      rw [e2] at h
      exact nomatch h
    | stuck =>
      rw [e2] at h
      exact nomatch h
  | exc c =>
    rw [e] at h
    exact nomatch h
  | stuck =>
    rw [e] at h
    exact nomatch h
theorem compL_len {f : Val → Res (Option Val)} : ∀ {l ws : List Val}, compL f l = .ok ws → ws.length ≤ l.length
  | [], ws, h => by
    cases h
    exact Nat.le_refl _
  | x :: xs, ws, h => by
    obtain ⟨o, ys, e1, e2, rfl⟩ := compL_cons h
    have := compL_len e2
    cases o with
    | none =>
      simp only [List.length_cons]
      omega
    | some y =>
      simp only [List.length_cons]
      omega
theorem den_comp {wi : TI} {ds : Env → Res (List Val)} {tt : TT} {te : TE} {fe : Bool} {dc de : Env → Res Val} {tg : Tg} {own : List Nat} (hs : DenS K mg W wi ds) (hc : DenT K mg W0 tt dc) (he : Den K mg W0 te fe de) (htg : tgIn tg own = true) :
    Den K mg W (tLc wi (rdTg K tg) tt te own) true (fun ρ => (ds ρ).bind fun items => (compL (compF tg own dc de ρ) items).bind fun vs => .ok (.lst vs)) := by
  refine ⟨fun N H σ ρ w Q f e q k => ?_, fun N H σ ρ c Q f e q k => ?_⟩
  · obtain ⟨items, e1, q⟩ := bind_ok q
    obtain ⟨vs, e2, q⟩ := bind_ok q
    cases q
    refine hs.ok N H σ ρ items _ f e e1 fun J H1 G Y s1 hl wk g0 st D hD => ?_
    obtain ⟨N', hN'⟩ : ∃ N' : Addr → Prop, N' = fun a => N a ∧ a ≠ D := ⟨_, rfl⟩
    have hn : ∀ a, N a → H1 a ≠ none → N' a := fun a ha h0 => by
      rw [hN']
      exact ⟨ha, fun z => h0 (by rw [z]; exact hD)⟩
    have hsub : ∀ a, N' a → N a := fun a ha => by
      rw [hN'] at ha
      exact ha.1
    obtain ⟨stG, stY⟩ := st N' hn
    have kD : ∀ {H4 : Hp} {acc acc' : List V}, H4 D = some (.lst acc) → Keep N' H4 (upd H4 D (.lst acc')) := fun {H4 acc acc'} h4 a o ha hm => by
      have hne : a ≠ D := fun z => by
        subst z
        rcases hm with hm | hm
        · rw [hN'] at hm
          exact hm.2 rfl
        · rw [h4] at ha
          cases ha
          exact hm
      rw [upd_ne hne]
      exact ha
    have f1 := f.same s1
    refine lc_it wk (fun i H2 => ∃ acc dn rest, H2 D = some (.lst acc) ∧ Reps K N' H2 acc dn ∧ compL (compF tg own dc de ρ) (items.drop i) = .ok rest ∧ vs = dn ++ rest ∧ Same H1 H2 ∧ Fr H2 N' ∧ acc.length ≤ i) ?_ ?_ ?_ ?_
    · refine ⟨[], [], vs, upd_same, .nil, e2, rfl, same_upd hD, fun a ha => ?_, Nat.le_refl _⟩
      have hne : a ≠ D := fun z => by
        rw [z, upd_same] at ha
        exact nomatch ha
      rw [upd_ne hne] at ha
      rw [hN']
      exact ⟨f1 a ha, hne⟩
    · rintro i H2 hi ⟨acc, dn, rest, h1, h2, h3, h4, h5, h6, h7⟩
      exact stG H1 H2 (.of h5) g0
    · rintro i x H2 H3 hi ⟨acc, dn, rest, h1, h2, h3, h4, h5, h6, h7⟩ y
      obtain ⟨w, ew, s3, rw'⟩ := stY i H2 x H3 hi (.of h5) (stG H1 H2 (.of h5) g0) y
      have hlt : i < items.length := hi
      rw [List.drop_eq_getElem_cons hlt] at h3
      have ew2 : items[i] = w := by
        rw [List.getElem?_eq_getElem hlt] at ew
        exact Option.some.inj ew
      rw [ew2] at h3
      obtain ⟨o, ys', eo, ey, er⟩ := compL_cons h3
      have h53 : Same H1 H3 := h5.trans s3
      have ev3 : Ev K N' H3 (L2.wipe σ own) (kill ρ own) := ((e.same s1).wipe own).more hn h53
      unfold compF at eo
      split at eo
      · exact nomatch eo
      · rename_i ρ' eb
        obtain ⟨cv, ec, eo1⟩ := bind_ok eo
        obtain ⟨b, eb2, eo2⟩ := asB_ok eo1
        subst eb2
        refine den_tg ev3 rw' eb fun σ2 e2' hw => ⟨by rw [hw own htg, wipe_wipe], ?_⟩
        refine hc.ok N' H3 σ2 ρ' b _ (h6.same s3) e2' ec fun H4 s4 => ?_
        cases b with
        | true =>
          rw [if_pos rfl] at eo2 ⊢
          obtain ⟨v, ev, eo3⟩ := bind_ok eo2
          cases eo3
          subst er
          refine he.ok N' H4 σ2 ρ' v _ ((h6.same s3).same s4) (e2'.same s4) ev fun z H5 s5 r5 _ => ?_
          have s25 : Same H2 H5 := (s3.trans s4).trans s5
          refine ⟨acc, s25 _ _ h1, Nat.lt_of_lt_of_le (Nat.lt_of_le_of_lt h7 hlt) (Nat.le_trans hl (by decide)), ?_⟩
          refine ⟨acc ++ [z], dn ++ [v], ys', upd_same, ?_, ey, ?_, ?_, ?_, ?_⟩
          · exact ((h2.same s25).append (.cons r5 .nil)).keep (fun _ n _ => n) (kD (s25 _ _ h1))
          · rw [h4, List.append_assoc]
            rfl
          · intro a o ha
            have hne : a ≠ D := fun z => by
              rw [z, hD] at ha
              exact nomatch ha
            rw [upd_ne hne]
            exact s25 _ _ (h5 _ _ ha)
          · intro a ha
            have hne : a ≠ D := fun z => by
              rw [z, upd_same] at ha
              exact nomatch ha
            rw [upd_ne hne] at ha
            exact ((h6.same s25)) a ha
          · rw [List.length_append]
            simp only [List.length_cons, List.length_nil]
            omega
        | false =>
          rw [if_neg Bool.false_ne_true] at eo2 ⊢
          cases eo2
          have s24 : Same H2 H4 := s3.trans s4
          rw [er] at h4
          exact ⟨acc, dn, _, s24 _ _ h1, h2.same s24, ey, h4, h5.trans s24, h6.same s24, by omega⟩
    · rintro H2 ⟨acc, dn, rest, h1, h2, h3, h4, h5, h6, h7⟩
      rw [List.drop_length] at h3
      cases h3
      rw [List.append_nil] at h4
      subst h4
      refine k _ _ (s1.trans h5) (.lst (f1 D hD) h1 ?_ (h2.more hsub)) fun _ a ws ez ew => ?_
      · exact Nat.le_trans (compL_len e2) hl
      · cases ez
        cases ew
        subst hN'
        exact ⟨s1.free hD, acc, h1, h2⟩
  · rcases bind_exc q with q | ⟨items, e1, q⟩
    · exact hs.exc N H σ ρ c _ f e q k
    · rcases bind_exc q with q | ⟨vs, e2, q⟩
      · exact absurd q compL_nx
      · exact nomatch q
theorem rgV_rep {N : Addr → Prop} {H : Hp} : ∀ (n : Nat) (a : Int), Reps K N H ((List.range n).map fun i => V.int (a + (i : Nat))) (rangeV a n)
  | 0, _ => .nil
  | n + 1, a => by
    rw [List.range_succ_eq_map, List.map_cons, List.map_map]
    refine .cons (by simpa using Rep.int a) ?_
    have e : (List.range n).map ((fun i : Nat => V.int (a + (i : Nat))) ∘ Nat.succ) = (List.range n).map fun i => V.int ((a + 1) + (i : Nat)) := by
      refine List.map_congr_left fun i _ => ?_
      show V.int (a + ((i + 1 : Nat) : Int)) = _
      congr 1
      omega
    rw [e]
    exact rgV_rep n (a + 1)
theorem den_rng {te : St → Hp → (Int → Int → Hp → Prop) → Prop} {d : Env → Res (List Val)} (h : DenR K mg W te d) : Den K mg W (tLstRg te) true (fun ρ => (d ρ).bind fun vs => .ok (.lst vs)) :=
  ⟨fun N H σ ρ w Q f e q k => by
    obtain ⟨vs, e1, q⟩ := bind_ok q
    cases q
    refine h.ok N H σ ρ vs _ f e e1 fun a b H1 s1 hr => ?_
    obtain ⟨⟨h1, h2, h3, h4, h5⟩, rfl⟩ := rangeR_ok hr
    refine ⟨⟨h1, h2, h3, h4, Nat.le_trans h5 (by decide)⟩, fun p hp => ?_⟩
    refine k _ _ (s1.trans (same_upd hp)) (.lst (f.same s1 p hp) upd_same (by rw [rangeV_length]; exact h5) (rgV_rep _ _)) fun _ a ws ez ew => ?_
    cases ez
    cases ew
    exact (NewL.mk' hp (rgV_rep _ _)).back s1,
  fun N H σ ρ c Q f e q k => by
    rcases bind_exc q with q | ⟨vs, e1, q⟩
    · exact h.exc N H σ ρ c _ f e q k
    · exact nomatch q⟩
theorem denr1 {ta : TE} {fa : Bool} {da : Env → Res Val} (ha : Den K mg W ta fa da) : DenR K mg W (fun σ H q => ta σ H fun x H1 => ∃ i, x = .int i ∧ q 0 i H1) (fun ρ => (da ρ).bind fun x => match x with
    | .int i => rangeR 0 i
    | _ => .stuck) :=
  ⟨fun N H σ ρ items R f e q k => by
    obtain ⟨u, e1, q⟩ := bind_ok q
    refine ha.ok N H σ ρ u _ f e e1 fun x H1 s1 r1 _ => ?_
    cases r1 with
    | int j => exact ⟨j, rfl, k 0 j H1 s1 q⟩
    | _ => exact (nomatch q),
  fun N H σ ρ c R f e q k => by
    rcases bind_exc q with q | ⟨u, e1, q⟩
    · exact ha.exc N H σ ρ c _ f e q k
    · split at q
      · exact absurd q rangeR_nx
      · exact nomatch q⟩
theorem denr2 {ta tb : TE} {fa fb : Bool} {da db : Env → Res Val} (ha : Den K mg W ta fa da) (hb : Den K mg W tb fb db) : DenR K mg W (fun σ H q => ta σ H fun x H1 => tb σ H1 fun y H2 => ∃ i j, x = .int i ∧ y = .int j ∧ q i j H2) (fun ρ => (da ρ).bind fun x => (db ρ).bind fun y => match x, y with
    | .int i, .int j => rangeR i j
    | _, _ => .stuck) :=
  ⟨fun N H σ ρ items R f e q k => by
    obtain ⟨u, e1, q⟩ := bind_ok q
    obtain ⟨v, e2, q⟩ := bind_ok q
    refine ha.ok N H σ ρ u _ f e e1 fun x H1 s1 r1 _ => ?_
    refine hb.ok N H1 σ ρ v _ (f.same s1) (e.same s1) e2 fun y H2 s2 r2 _ => ?_
    cases r1 with
    | int i =>
      cases r2 with
      | int j => exact ⟨i, j, rfl, rfl, k i j H2 (s1.trans s2) q⟩
      | _ => exact nomatch q
    | _ => exact (nomatch q),
  fun N H σ ρ c R f e q k => by
    rcases bind_exc q with q | ⟨u, e1, q⟩
    · exact ha.exc N H σ ρ c _ f e q k
    · refine ha.ok N H σ ρ u _ f e e1 fun x H1 s1 r1 _ => ?_
      rcases bind_exc q with q | ⟨v, e2, q⟩
      · exact hb.exc N H1 σ ρ c _ (f.same s1) (e.same s1) q (k.same s1)
      · split at q
        · exact absurd q rangeR_nx
        · exact nomatch q⟩
theorem den_chain {ta tb tc : TE} {fa fb fc fr : Bool} {da db dc : Env → Res Val} (o1 o2 : Cop) (ha : Den K mg W ta fa da) (hb : Den K mg W tb fb db) (hc : Den K mg W tc fc dc) :
    Den K mg W (tChain (rCmp K o1) (rCmp K o2) ta tb tc) fr (fun ρ => (da ρ).bind fun x => (db ρ).bind fun y => (cmpV o1 x y).bind (asB fun k => if k then (dc ρ).bind fun z => cmpV o2 y z else .ok (.bool false))) :=
  ⟨fun N H σ ρ w Q f e q k => by
    obtain ⟨u, e1, q⟩ := bind_ok q
    obtain ⟨v, e2, q⟩ := bind_ok q
    obtain ⟨t, e3, q⟩ := bind_ok q
    obtain ⟨b, eb, q2⟩ := asB_ok q
    subst eb
    refine ha.ok N H σ ρ u _ f e e1 fun x H1 s1 r1 _ => ?_
    refine hb.ok N H1 σ ρ v _ (f.same s1) (e.same s1) e2 fun y H2 s2 r2 _ => ?_
    refine cmp_ok (r1.same s2) r2 e3 fun z H3 s3 r3 _ => ?_
    cases r3
    refine ⟨b, rfl, ?_⟩
    cases b with
    | true =>
      rw [if_pos rfl] at q2 ⊢
      obtain ⟨z, e4, q3⟩ := bind_ok q2
      refine hc.ok N H3 σ ρ z _ (((f.same s1).same s2).same s3) (((e.same s1).same s2).same s3) e4 fun z' H4 s4 r4 _ => ?_
      exact cmp_ok ((r2.same s3).same s4) r4 q3 fun z5 H5 s5 r5 f5 => k z5 H5 ((((s1.trans s2).trans s3).trans s4).trans s5) r5 fun _ a ws ez ew => ((((f5 a ws ez ew).back s4).back s3).back s2).back s1
    | false =>
      rw [if_neg Bool.false_ne_true] at q2 ⊢
      cases q2
      exact k _ _ ((s1.trans s2).trans s3) (.bool false) fun _ _ _ _ z => (nomatch z),
  fun N H σ ρ c Q f e q k => by
    rcases bind_exc q with q | ⟨u, e1, q⟩
    · exact ha.exc N H σ ρ c _ f e q k
    · refine ha.ok N H σ ρ u _ f e e1 fun x H1 s1 r1 _ => ?_
      rcases bind_exc q with q | ⟨v, e2, q⟩
      · exact hb.exc N H1 σ ρ c _ (f.same s1) (e.same s1) q (k.same s1)
      · refine hb.ok N H1 σ ρ v _ (f.same s1) (e.same s1) e2 fun y H2 s2 r2 _ => ?_
        rcases bind_exc q with q | ⟨t, e3, q⟩
        · exact absurd q (cmp_nx _ _ _ _)
        · obtain ⟨b, eb, q2⟩ := asB_exc q
          subst eb
          refine cmp_ok (r1.same s2) r2 e3 fun z H3 s3 r3 _ => ?_
          cases r3
          refine ⟨b, rfl, ?_⟩
          cases b with
          | true =>
            rw [if_pos rfl] at q2 ⊢
            rcases bind_exc q2 with q | ⟨z, e4, q⟩
            · exact hc.exc N H3 σ ρ c _ (((f.same s1).same s2).same s3) (((e.same s1).same s2).same s3) q (((k.same s1).same s2).same s3)
            · exact absurd q (cmp_nx _ _ _ _)
          | false => exact nomatch q2⟩
end
end Lh
set_option Elab.async false
set_option linter.all false
set_option maxRecDepth 100000
set_option maxHeartbeats 4000000
namespace Lh
open PySem L2
section
variable {K : PySem.W.Frag} {mg : Str → Option Value} {W : WX}
theorem den_andV {ta tb : TE} {fa fb fr : Bool} {da db : Env → Res Val} (ha : Den K mg W ta fa da) (hb : Den K mg W tb fb db) :
    Den K mg W (tAndV ta tb) fr (fun ρ => (da ρ).bind (asB fun k => if k then (db ρ).bind (asB fun k => .ok (.bool k)) else .ok (.bool false))) :=
  ⟨fun N H σ ρ w Q f e q k => by
    obtain ⟨u, e1, q1⟩ := bind_ok q
    obtain ⟨b, eb, q2⟩ := asB_ok q1
    subst eb
    refine ha.ok N H σ ρ _ _ f e e1 fun x H1 s1 r1 _ => ?_
    cases r1
    refine ⟨b, rfl, ?_⟩
    cases b with
    | true =>
      rw [if_pos rfl] at q2 ⊢
      obtain ⟨v, e2, q3⟩ := bind_ok q2
      obtain ⟨b', eb', q4⟩ := asB_ok q3
      subst eb'
      cases q4
      exact hb.ok N H1 σ ρ _ _ (f.same s1) (e.same s1) e2 fun y H2 s2 r2 _ => k y H2 (s1.trans s2) r2 fun _ _ _ _ z => nomatch z
    | false =>
      rw [if_neg Bool.false_ne_true] at q2 ⊢
      cases q2
      exact k _ _ s1 (.bool false) fun _ _ _ _ z => (nomatch z),
  fun N H σ ρ c Q f e q k => by
    rcases bind_exc q with q | ⟨u, e1, q1⟩
    · exact ha.exc N H σ ρ c _ f e q k
    · obtain ⟨b, eb, q2⟩ := asB_exc q1
      subst eb
      refine ha.ok N H σ ρ _ _ f e e1 fun x H1 s1 r1 _ => ?_
      cases r1
      refine ⟨b, rfl, ?_⟩
      cases b with
      | true =>
        rw [if_pos rfl] at q2 ⊢
        rcases bind_exc q2 with q3 | ⟨v, e2, q3⟩
        · exact hb.exc N H1 σ ρ c _ (f.same s1) (e.same s1) q3 (k.same s1)
        · obtain ⟨b', eb', q4⟩ := asB_exc q3
          exact nomatch q4
      | false => exact nomatch q2⟩
theorem den_orV {ta tb : TE} {fa fb fr : Bool} {da db : Env → Res Val} (ha : Den K mg W ta fa da) (hb : Den K mg W tb fb db) :
    Den K mg W (tOrV ta tb) fr (fun ρ => (da ρ).bind (asB fun k => if k then .ok (.bool true) else (db ρ).bind (asB fun k => .ok (.bool k)))) :=
  ⟨fun N H σ ρ w Q f e q k => by
    obtain ⟨u, e1, q1⟩ := bind_ok q
    obtain ⟨b, eb, q2⟩ := asB_ok q1
    subst eb
    refine ha.ok N H σ ρ _ _ f e e1 fun x H1 s1 r1 _ => ?_
    cases r1
    refine ⟨b, rfl, ?_⟩
    cases b with
    | false =>
      rw [if_neg Bool.false_ne_true] at q2 ⊢
      obtain ⟨v, e2, q3⟩ := bind_ok q2
      obtain ⟨b', eb', q4⟩ := asB_ok q3
      subst eb'
      cases q4
      exact hb.ok N H1 σ ρ _ _ (f.same s1) (e.same s1) e2 fun y H2 s2 r2 _ => k y H2 (s1.trans s2) r2 fun _ _ _ _ z => nomatch z
    | true =>
      rw [if_pos rfl] at q2 ⊢
      cases q2
      exact k _ _ s1 (.bool true) fun _ _ _ _ z => (nomatch z),
  fun N H σ ρ c Q f e q k => by
    rcases bind_exc q with q | ⟨u, e1, q1⟩
    · exact ha.exc N H σ ρ c _ f e q k
    · obtain ⟨b, eb, q2⟩ := asB_exc q1
      subst eb
      refine ha.ok N H σ ρ _ _ f e e1 fun x H1 s1 r1 _ => ?_
      cases r1
      refine ⟨b, rfl, ?_⟩
      cases b with
      | false =>
        rw [if_neg Bool.false_ne_true] at q2 ⊢
        rcases bind_exc q2 with q3 | ⟨v, e2, q3⟩
        · exact hb.exc N H1 σ ρ c _ (f.same s1) (e.same s1) q3 (k.same s1)
        · obtain ⟨b', eb', q4⟩ := asB_exc q3
          exact nomatch q4
      | true => exact nomatch q2⟩
theorem den_notV {ta : TE} {fa fr : Bool} {da : Env → Res Val} (ha : Den K mg W ta fa da) :
    Den K mg W (tNotV ta) fr (fun ρ => (da ρ).bind (asB fun k => .ok (.bool (!k)))) :=
  ⟨fun N H σ ρ w Q f e q k => by
    obtain ⟨u, e1, q1⟩ := bind_ok q
    obtain ⟨b, eb, q2⟩ := asB_ok q1
    subst eb
    cases q2
    refine ha.ok N H σ ρ _ _ f e e1 fun x H1 s1 r1 _ => ?_
    cases r1
    exact ⟨b, rfl, k _ _ s1 (.bool _) fun _ _ _ _ z => nomatch z⟩,
  fun N H σ ρ c Q f e q k => by
    rcases bind_exc q with q | ⟨u, e1, q1⟩
    · exact ha.exc N H σ ρ c _ f e q k
    · obtain ⟨b, eb, q2⟩ := asB_exc q1
      exact nomatch q2⟩
theorem den_and {ta tb : TT} {da db : Env → Res Val} (ha : DenT K mg W ta da) (hb : DenT K mg W tb db) :
    DenT K mg W (tAnd ta tb) (fun ρ => (da ρ).bind (asB fun k => if k then (db ρ).bind (asB fun k => .ok (.bool k)) else .ok (.bool false))) :=
  ⟨fun N H σ ρ w Q f e q k => by
    obtain ⟨u, e1, q1⟩ := bind_ok q
    obtain ⟨b, eb, q2⟩ := asB_ok q1
    subst eb
    refine ha.ok N H σ ρ _ _ f e e1 fun H1 s1 => ?_
    cases b with
    | true =>
      rw [if_pos rfl] at q2 ⊢
      obtain ⟨v, e2, q3⟩ := bind_ok q2
      obtain ⟨b', eb', q4⟩ := asB_ok q3
      subst eb'
      cases q4
      exact hb.ok N H1 σ ρ _ _ (f.same s1) (e.same s1) e2 fun H2 s2 => k H2 (s1.trans s2)
    | false =>
      rw [if_neg Bool.false_ne_true] at q2 ⊢
      cases q2
      exact k _ s1,
  fun N H σ ρ c Q f e q k => by
    rcases bind_exc q with q | ⟨u, e1, q1⟩
    · exact ha.exc N H σ ρ c _ f e q k
    · obtain ⟨b, eb, q2⟩ := asB_exc q1
      subst eb
      refine ha.ok N H σ ρ _ _ f e e1 fun H1 s1 => ?_
      cases b with
      | true =>
        rw [if_pos rfl] at q2 ⊢
        rcases bind_exc q2 with q3 | ⟨v, e2, q3⟩
        · exact hb.exc N H1 σ ρ c _ (f.same s1) (e.same s1) q3 (k.same s1)
        · obtain ⟨b', eb', q4⟩ := asB_exc q3
          exact nomatch q4
      | false => exact nomatch q2⟩
theorem den_or {ta tb : TT} {da db : Env → Res Val} (ha : DenT K mg W ta da) (hb : DenT K mg W tb db) :
    DenT K mg W (tOr ta tb) (fun ρ => (da ρ).bind (asB fun k => if k then .ok (.bool true) else (db ρ).bind (asB fun k => .ok (.bool k)))) :=
  ⟨fun N H σ ρ w Q f e q k => by
    obtain ⟨u, e1, q1⟩ := bind_ok q
    obtain ⟨b, eb, q2⟩ := asB_ok q1
    subst eb
    refine ha.ok N H σ ρ _ _ f e e1 fun H1 s1 => ?_
    cases b with
    | false =>
      rw [if_neg Bool.false_ne_true] at q2 ⊢
      obtain ⟨v, e2, q3⟩ := bind_ok q2
      obtain ⟨b', eb', q4⟩ := asB_ok q3
      subst eb'
      cases q4
      exact hb.ok N H1 σ ρ _ _ (f.same s1) (e.same s1) e2 fun H2 s2 => k H2 (s1.trans s2)
    | true =>
      rw [if_pos rfl] at q2 ⊢
      cases q2
      exact k _ s1,
  fun N H σ ρ c Q f e q k => by
    rcases bind_exc q with q | ⟨u, e1, q1⟩
    · exact ha.exc N H σ ρ c _ f e q k
    · obtain ⟨b, eb, q2⟩ := asB_exc q1
      subst eb
      refine ha.ok N H σ ρ _ _ f e e1 fun H1 s1 => ?_
      cases b with
      | false =>
        rw [if_neg Bool.false_ne_true] at q2 ⊢
        rcases bind_exc q2 with q3 | ⟨v, e2, q3⟩
        · exact hb.exc N H1 σ ρ c _ (f.same s1) (e.same s1) q3 (k.same s1)
        · obtain ⟨b', eb', q4⟩ := asB_exc q3
          exact nomatch q4
      | true => exact nomatch q2⟩
theorem den_not {ta : TT} {da : Env → Res Val} (ha : DenT K mg W ta da) :
    DenT K mg W (tNot ta) (fun ρ => (da ρ).bind (asB fun k => .ok (.bool (!k)))) :=
  ⟨fun N H σ ρ w Q f e q k => by
    obtain ⟨u, e1, q1⟩ := bind_ok q
    obtain ⟨b, eb, q2⟩ := asB_ok q1
    subst eb
    cases q2
    exact ha.ok N H σ ρ _ _ f e e1 fun H1 s1 => k _ s1,
  fun N H σ ρ c Q f e q k => by
    rcases bind_exc q with q | ⟨u, e1, q1⟩
    · exact ha.exc N H σ ρ c _ f e q k
    · obtain ⟨b, eb, q2⟩ := asB_exc q1
      exact nomatch q2⟩
theorem den_if {tc : TT} {ta tb : TE} {fa fb : Bool} {dc da db : Env → Res Val} (hc : DenT K mg W tc dc) (ha : Den K mg W ta fa da) (hb : Den K mg W tb fb db) :
    Den K mg W (tIf tc ta tb) false (fun ρ => (dc ρ).bind (asB fun k => if k then da ρ else db ρ)) :=
  ⟨fun N H σ ρ w Q f e q k => by
    obtain ⟨u, e1, q1⟩ := bind_ok q
    obtain ⟨b, eb, q2⟩ := asB_ok q1
    subst eb
    refine hc.ok N H σ ρ _ _ f e e1 fun H1 s1 => ?_
    cases b with
    | true =>
      rw [if_pos rfl] at q2 ⊢
      exact ha.ok N H1 σ ρ _ _ (f.same s1) (e.same s1) q2 fun y H2 s2 r2 _ => k y H2 (s1.trans s2) r2 fun z => nomatch z
    | false =>
      rw [if_neg Bool.false_ne_true] at q2 ⊢
      exact hb.ok N H1 σ ρ _ _ (f.same s1) (e.same s1) q2 fun y H2 s2 r2 _ => k y H2 (s1.trans s2) r2 fun z => (nomatch z),
  fun N H σ ρ c Q f e q k => by
    rcases bind_exc q with q | ⟨u, e1, q1⟩
    · exact hc.exc N H σ ρ c _ f e q k
    · obtain ⟨b, eb, q2⟩ := asB_exc q1
      subst eb
      refine hc.ok N H σ ρ _ _ f e e1 fun H1 s1 => ?_
      cases b with
      | true =>
        rw [if_pos rfl] at q2 ⊢
        exact ha.exc N H1 σ ρ c _ (f.same s1) (e.same s1) q2 (k.same s1)
      | false =>
        rw [if_neg Bool.false_ne_true] at q2 ⊢
        exact hb.exc N H1 σ ρ c _ (f.same s1) (e.same s1) q2 (k.same s1)⟩
theorem optI_nx {o : Option Val} {c : Str} : optI o ≠ .exc c := by
  intro h
  unfold optI at h
  split at h <;> cases h
theorem den_slice {ta : TE} {tl th : TO} {fa fr : Bool} {da : Env → Res Val} {dl dh : Env → Res (Option Val)} (ha : Den K mg W ta fa da) (hl : DenO K mg W tl dl) (hh : DenO K mg W th dh) :
    Den K mg W (tSl (rSl K) ta tl th) fr (fun ρ => (da ρ).bind fun x => (dl ρ).bind fun l => (optI l).bind fun l => (dh ρ).bind fun h => (optI h).bind fun h => sliceV l h x) :=
  ⟨fun N H σ ρ w Q f e q k => by
    obtain ⟨u, e1, q1⟩ := bind_ok q
    obtain ⟨l, e2, q2⟩ := bind_ok q1
    obtain ⟨l', e4, q3⟩ := bind_ok q2
    obtain ⟨h, e3, q4⟩ := bind_ok q3
    obtain ⟨h', e5, q5⟩ := bind_ok q4
    refine ha.ok N H σ ρ u _ f e e1 fun x H1 s1 r1 _ => ?_
    refine hl.ok N H1 σ ρ l l' _ (f.same s1) (e.same s1) e2 e4 fun H2 s2 => ?_
    refine hh.ok N H2 σ ρ h h' _ ((f.same s1).same s2) ((e.same s1).same s2) e3 e5 fun H3 s3 => ?_
    exact slice_ok (((f.same s1).same s2).same s3) ((r1.same s2).same s3) q5 fun z H4 s4 r4 f4 => k z H4 (((s1.trans s2).trans s3).trans s4) r4 fun _ a ws ez ew => (((f4 a ws ez ew).back s3).back s2).back s1,
  fun N H σ ρ c Q f e q k => by
    rcases bind_exc q with q | ⟨u, e1, q1⟩
    · exact ha.exc N H σ ρ c _ f e q k
    · refine ha.ok N H σ ρ u _ f e e1 fun x H1 s1 r1 _ => ?_
      rcases bind_exc q1 with q | ⟨l, e2, q2⟩
      · exact hl.exc N H1 σ ρ c _ (f.same s1) (e.same s1) q (k.same s1)
      · rcases bind_exc q2 with q | ⟨l', e4, q3⟩
        · exact absurd q optI_nx
        · rcases bind_exc q3 with q | ⟨h, e3, q4⟩
          · refine hl.ok N H1 σ ρ l l' _ (f.same s1) (e.same s1) e2 e4 fun H2 s2 => ?_
            exact hh.exc N H2 σ ρ c _ ((f.same s1).same s2) ((e.same s1).same s2) q ((k.same s1).same s2)
          · rcases bind_exc q4 with q | ⟨h', e5, q5⟩
            · exact absurd q optI_nx
            · exact absurd q5 (slice_nx _ _ _ _)⟩
theorem den_rev {ta : TE} {fa fr : Bool} {da : Env → Res Val} (ha : Den K mg W ta fa da) : Den K mg W (tRevA K ta) fr (fun ρ => (da ρ).bind revV) :=
  den_un (r := fun x H Q => ∃ a xs, x = .ref a ∧ ((SqL K H a xs ∧ ∀ p, H p = none → Q (.ref p) (upd H p (.lst xs.reverse))) ∨ (SqT K H a xs ∧ ∀ p, H p = none → Q (.ref p) (upd H p (.tup xs.reverse))))) ha (fun N H x u w Q f r e k => by
    cases r with
    | lst n h hl r =>
      cases e
      exact ⟨_, _, rfl, .inl ⟨SqL.of h, (got_any k).lst f (by rw [List.length_reverse]; exact hl) r.reverse⟩⟩
    | tup h hl r =>
      cases e
      exact ⟨_, _, rfl, .inr ⟨SqT.of h, (got_any k).tup (by rw [List.length_reverse]; exact hl) r.reverse⟩⟩
    | _ => exact nomatch e) (fun u c h => by
    unfold revV at h
    split at h <;> cases h)
theorem den_no : DenO K mg W tNoPart (fun _ => .ok none) :=
  ⟨fun N H σ ρ o o' Q f e q1 q2 k => by
    cases q1
    cases q2
    exact k H (Same.refl H), fun N H σ ρ c Q f e q k => nomatch q⟩
theorem den_yes {ta : TE} {fa : Bool} {da : Env → Res Val} (ha : Den K mg W ta fa da) : DenO K mg W (tPart ta) (fun ρ => (da ρ).bind fun v => .ok (some v)) :=
  ⟨fun N H σ ρ o o' Q f e q1 q2 k => by
    obtain ⟨u, e1, q1⟩ := bind_ok q1
    cases q1
    refine ha.ok N H σ ρ u _ f e e1 fun x H1 s1 r1 _ => ?_
    cases r1 with
    | int i =>
      cases q2
      exact ⟨_, rfl, k H1 s1⟩
    | _ => exact (nomatch q2),
  fun N H σ ρ c Q f e q k => by
    rcases bind_exc q with q | ⟨u, e1, q1⟩
    · exact ha.exc N H σ ρ c _ f e q k
    · exact nomatch q1⟩
end
/-- may be a test as it stands (an if-else is none) -/
def tst : E → Bool
  | .ife _ _ _ => false
  | .and a b => tst a && tst b
  | .or a b => tst a && tst b
  | .not a => tst a
  | _ => true
mutual
def wf : E → Bool
  | .tup es => wfs es
  | .lst es => wfs es
  | .bin _ a b => wf a && wf b
  | .neg a => wf a
  | .cmp _ a b => wf a && wf b
  | .chain _ _ a b c => wf a && wf b && wf c
  | .and a b => wf a && wf b
  | .or a b => wf a && wf b
  | .not a => wf a
  | .ife c a b => wf c && tst c && wf a && wf b
  | .idx a b => wf a && wf b
  | .slice a lo hi => wf a && wfo lo && wfo hi
  | .rev a => wf a
  | .comp elt tg src cond own => wf elt && tgIn tg own && wfsrc src && wfc cond
  | .call _ _ es => wfs es
  | .meth _ _ _ es => wfs es
  | .b1 _ a => wf a
  | .b2 _ a b => wf a && wf b
  | .b3 _ a b c => wf a && wf b && wf c
  | .rng src => wfrg src
  | _ => true
def wfs : Es → Bool
  | .nil => true
  | .cons e es => wf e && wfs es
def wfo : Eo → Bool
  | .no => true
  | .yes e => wf e
def wfc : Eo → Bool
  | .no => true
  | .yes e => wf e && tst e
def wfrg : Src → Bool
  | .range1 a => wf a
  | .range2 a b => wf a && wf b
  | _ => false
def wfsrc : Src → Bool
  | .seq e => wf e
  | .signs e => wf e
  | .range1 a => wf a
  | .range2 a b => wf a && wf b
  | .enum e => wf e
  | .zip a b => wf a && wf b
end
section
variable {K : PySem.W.Frag} {mg : Str → Option Value}
mutual
theorem den (W : WX) : ∀ e : E, wf e = true → Den K mg W (rd K mg W e).1 (freshTop e) (evE e) ∧ (tst e = true → DenT K mg W (rd K mg W e).2 (evE e))
  | .var i, _ => ⟨den_var, fun _ => den_tB den_var⟩
  | .int n, _ => have d := den_c (v := .int n) (w := .int n) (fr := false) (fun _ _ => .int n) (fun _ h => nomatch h); ⟨d, fun _ => den_tB d⟩
  | .bool b, _ => have d := den_c (v := .bl b) (w := .bool b) (fr := false) (fun _ _ => .bool b) (fun _ h => nomatch h); ⟨d, fun _ => den_tB d⟩
  | .non, _ => have d := den_c (v := .non) (w := .non) (fr := false) (fun _ _ => .non) (fun _ h => nomatch h); ⟨d, fun _ => den_tB d⟩
  | .str s, _ => have d := den_c (v := .str s) (w := .str s) (fr := false) (fun _ _ => .str s) (fun _ h => nomatch h); ⟨d, fun _ => den_tB d⟩
  | .glob _ n, _ => have d := den_c (v := .int n) (w := .int n) (fr := false) (fun _ _ => .int n) (fun _ h => nomatch h); ⟨d, fun _ => den_tB d⟩
  | .tup es, h => have d := den_tup (fr := false) (dens W es h); ⟨d, fun _ => den_tB d⟩
  | .lst es, h => have d := den_lst (dens W es h); ⟨d, fun _ => den_tB d⟩
  | .dict k, _ => have d := den_dict (fr := false); ⟨d, fun _ => den_tB d⟩
  | .bin op a b, h => by
    simp only [wf, Bool.and_eq_true] at h
    have d := den_bin (fr := freshTop (.bin op a b)) op (den W a h.1).1 (den W b h.2).1
    exact ⟨d, fun _ => den_tB d⟩
  | .neg a, h => have d := den_neg (fr := false) (den W a h).1; ⟨d, fun _ => den_tB d⟩
  | .cmp op a b, h => by
    simp only [wf, Bool.and_eq_true] at h
    have d := den_cmp (fr := false) op (den W a h.1).1 (den W b h.2).1
    exact ⟨d, fun _ => den_tTest d⟩
  | .chain o1 o2 a b c, h => by
    simp only [wf, Bool.and_eq_true] at h
    have d := den_chain (fr := false) o1 o2 (den W a h.1.1).1 (den W b h.1.2).1 (den W c h.2).1
    exact ⟨d, fun _ => den_tTest d⟩
  | .and a b, h => by
    simp only [wf, Bool.and_eq_true] at h
    exact ⟨den_andV (fr := false) (den W a h.1).1 (den W b h.2).1, fun t => by
      simp only [tst, Bool.and_eq_true] at t
      exact den_and ((den W a h.1).2 t.1) ((den W b h.2).2 t.2)⟩
  | .or a b, h => by
    simp only [wf, Bool.and_eq_true] at h
    exact ⟨den_orV (fr := false) (den W a h.1).1 (den W b h.2).1, fun t => by
      simp only [tst, Bool.and_eq_true] at t
      exact den_or ((den W a h.1).2 t.1) ((den W b h.2).2 t.2)⟩
  | .not a, h => ⟨den_notV (fr := false) (den W a h).1, fun t => den_not ((den W a h).2 t)⟩
  | .ife c a b, h => by
    simp only [wf, Bool.and_eq_true] at h
    exact ⟨den_if ((den W c h.1.1.1).2 h.1.1.2) (den W a h.1.2).1 (den W b h.2).1, fun t => nomatch t⟩
  | .idx a b, h => by
    simp only [wf, Bool.and_eq_true] at h
    have d := den_idx (den W a h.1).1 (den W b h.2).1
    exact ⟨d, fun _ => den_tB d⟩
  | .slice a lo hi, h => by
    simp only [wf, Bool.and_eq_true] at h
    have d := den_slice (fr := true) (den W a h.1.1).1 (deno W lo h.1.2) (deno W hi h.2)
    exact ⟨d, fun _ => den_tB d⟩
  | .rev a, h => have d := den_rev (fr := true) (den W a h).1; ⟨d, fun _ => den_tB d⟩
  | .comp elt tg src cond own, h => by
    simp only [wf, Bool.and_eq_true] at h
    have d := den_comp (densrc W src h.1.2) (denc cond h.2) (den W0 elt h.1.1.1).1 h.1.1.2
    exact ⟨d, fun _ => den_tB d⟩
  | .call _ F es, h => have d := den_call (F := F) (dens W es h); ⟨d, fun _ => den_tB d⟩
  | .attr i f, h => have d := den_attr (i := i) (f := f) rfl; ⟨d, fun _ => den_tB d⟩
  | .meth i m F es, h => have d := den_meth (i := i) (m := m) (F := F) (dens W es h); ⟨d, fun _ => den_tB d⟩
  | .b1 f a, h => have d := den_b1 f (a := a) (den W a h).1; ⟨d, fun _ => den_tB d⟩
  | .b2 f a b, h => by
    simp only [wf, Bool.and_eq_true] at h
    have d := den_b2 f (den W a h.1).1 (den W b h.2).1
    exact ⟨d, fun _ => den_tB d⟩
  | .b3 f a b c, h => by
    simp only [wf, Bool.and_eq_true] at h
    have d := den_b3 f (den W a h.1.1).1 (den W b h.1.2).1 (den W c h.2).1
    exact ⟨d, fun _ => den_tB d⟩
  | .rng src, h => have d := den_rng (denrg W src h); ⟨d, fun _ => den_tB d⟩
termination_by structural e => e
theorem dens (W : WX) : ∀ es : Es, wfs es = true → DenA K mg W (rdEs K mg W es) (evEs es)
  | .nil, _ => den_nil
  | .cons e es, h => by
    simp only [wfs, Bool.and_eq_true] at h
    exact den_cons (den W e h.1).1 (dens W es h.2)
termination_by structural e => e
theorem deno (W : WX) : ∀ eo : Eo, wfo eo = true → DenO K mg W (rdEo K mg W eo) (evEo eo)
  | .no, _ => den_no
  | .yes e, h => den_yes (den W e h).1
termination_by structural e => e
theorem denc : ∀ eo : Eo, wfc eo = true → DenT K mg W0 (rdC K mg eo) (evC eo)
  | .no, _ => ⟨fun N H σ ρ b Q f e q k => by
      cases q
      exact k H (Same.refl H), fun N H σ ρ c Q f e q k => nomatch q⟩
  | .yes e, h => by
    simp only [wfc, Bool.and_eq_true] at h
    exact (den W0 e h.1).2 h.2
termination_by structural e => e
theorem densrc (W : WX) : ∀ s : Src, wfsrc s = true → DenS K mg W (rdSrc K mg W s) (evSrc s)
  | .seq e, h => den_seq (den W e h).1
  | .signs e, h => den_signs (den W e h).1
  | .range1 a, h => den_range1 (den W a h).1
  | .range2 a b, h => by
    simp only [wfsrc, Bool.and_eq_true] at h
    exact den_range2 (den W a h.1).1 (den W b h.2).1
  | .enum e, h => den_enum (den W e h).1
  | .zip a b, h => by
    simp only [wfsrc, Bool.and_eq_true] at h
    exact den_zip (den W a h.1).1 (den W b h.2).1
termination_by structural e => e
theorem denrg (W : WX) : ∀ s : Src, wfrg s = true → DenR K mg W (rdRg K mg W s) (evSrc s)
  | .seq e, h => nomatch h
  | .signs e, h => nomatch h
  | .range1 a, h => denr1 (den W a h).1
  | .range2 a b, h => by
    simp only [wfrg, Bool.and_eq_true] at h
    exact denr2 (den W a h.1).1 (den W b h.2).1
  | .enum e, h => nomatch h
  | .zip a b, h => nomatch h
termination_by structural e => e
end
end
end Lh
set_option Elab.async false
set_option linter.all false
set_option maxRecDepth 100000
set_option maxHeartbeats 4000000
namespace Lh
open PySem PySem.Spec PyProof.Rows L2
/-- marked by any frame, or by none: noted by this one -/
theorem notes_any {M : Model} {A : Around} {E : Value → Shared → Prop} {s : Shared} {Z : Obj → Prop} {base : Heap} {env : PySem.Env} {outer : List PySem.Env} {L e : Addr} {fl : Value} {Q : Unit → Shared → Prop} (hZ : HandSPX.Steady Z) (hfr : A.frames = some (env :: outer)) (hf : env.frame = some L)
    (hB : base.StaysIn s.heap) (hn : base.get? e = none) (hl : s.heap.FunFrames base (env :: outer)) (ht : HandSPX.TracedZ s.heap base e Z fl)
    (hQ : ∀ h', HandSPX.HeldZ base (env :: outer) e Z L h' → s.heap.UpToSlots h' → Q () { s with heap := h' }) : wpAny M A (noteFrame (.ref e) env) Q E s := by
  by_cases hfl : (fl == rawInt L) = true
  · have e1 : fl = rawInt L := eq_of_beq hfl
    subst e1
    exact HandSPX.againZ hf ht (hQ s.heap ⟨hB, hn, hl, ht⟩ (Heap.UpToSlots.refl _))
  obtain ⟨oe, vs, T, oT, ts, he, hz, hd, h1, nT, Te, hT, dT, h3⟩ := ht
  unfold noteFrame
  simp only [hf]
  refine wpAny_bind (wpAny_field he hd h1 ?_)
  rw [if_pos (show (Value.ref T != Value.none) = true from by simp)]
  refine wpAny_bind (wpAny_field hT dT h3 ?_)
  rw [if_neg hfl]
  refine wpAny_bind (wpAny_setField hT dT (Array.getElem?_eq_some_iff.mp h3).1 ?_)
  have ot : ∀ b, b ≠ T → (s.heap.update T (Obj.mapFields (·.setIfInBounds 3 Value.none))).get? b = s.heap.get? b := fun b hb => Heap.get?_update_other _ _ (Ne.symm hb)
  have nr : ∀ b o, s.heap.get? b = some o → (∀ vs, o.data ≠ .fields vs) → b ≠ T := fun b o hb hnf q => by
    rw [q, hT] at hb
    cases hb
    exact hnf ts dT
  refine HandSPX.wpAny_entryZ hZ hfr (hl.of_keeps fun b o hb hnf => ⟨o, (ot b (nr b o hb hnf)).trans hb, rfl⟩) hf ((ot e (Ne.symm Te)).trans he)
    (fun b o hb => (ot b fun q => by rw [q, nT] at hb; cases hb).trans (hB b o hb)) hn hd (Array.getElem?_eq_some_iff.mp h1).1 hz fun h' hN => ?_
  obtain ⟨x1, x2, x3, x4⟩ := hN
  exact hQ h' ⟨x1, hn, x2, x3⟩ fun b o hb hnf => x4 b o ((ot b (nr b o hb hnf)).trans hb) hnf
/-- the ground without one object -/
theorem hide_none (h : Heap) (C : Addr) : (PySem.W.hideAll h [C]).get? C = none := PySem.W.hideAll_none [C] (List.mem_singleton.mpr rfl)
theorem hide_of {h : Heap} {C b : Addr} {o : Obj} (e : (PySem.W.hideAll h [C]).get? b = some o) : h.get? b = some o ∧ b ≠ C := ⟨PySem.W.of_hideAll _ e, fun z => by
  rw [z, hide_none] at e
  cases e⟩
theorem hide_at {h : Heap} {C b : Addr} {o : Obj} (e : h.get? b = some o) (hb : b ≠ C) : (PySem.W.hideAll h [C]).get? b = some o := PySem.W.hideAll_get _ e fun z => hb (List.mem_singleton.mp z)
theorem hide_nn {h : Heap} {C b : Addr} (e : h.get? b = none) : (PySem.W.hideAll h [C]).get? b = none := by
  cases q : (PySem.W.hideAll h [C]).get? b with
  | none => rfl
  | some o =>
    have := (hide_of q).1
    rw [e] at this
    cases this
theorem frames_hide {base h : Heap} {C : Addr} : ∀ {l : List PySem.Env}, h.FunFrames base l → h.FunFrames (PySem.W.hideAll base [C]) l
  | [], _ => trivial
  | _ :: _, ⟨hk, ⟨L, o, hf, hn, ho, hd⟩, hr⟩ => ⟨hk, ⟨L, o, hf, hide_nn hn, ho, hd⟩, frames_hide hr⟩
theorem traced_hide {base h : Heap} {C e : Addr} {Z : Obj → Prop} {fl : Value} (x : HandSPX.TracedZ h base e Z fl) : HandSPX.TracedZ h (PySem.W.hideAll base [C]) e Z fl := by
  obtain ⟨oe, vs, T, oT, ts, he, hz, hd, h1, nT, r⟩ := x
  exact ⟨oe, vs, T, oT, ts, he, hz, hd, h1, hide_nn nT, r⟩
/-- an exception in the air over the frames: it is noted by the frame that runs -/
theorem sky_notes {M : Model} {A : Around} {E : Value → Shared → Prop} {s : Shared} {Z : Obj → Prop} {B : Heap} {env : PySem.Env} {outer : List PySem.Env} {L0 L C a : Addr} {Q : Unit → Shared → Prop} (hZ : HandSPX.Steady Z) (hfr : A.frames = some (env :: outer)) (hf : env.frame = some L)
    (x : Sky B (env :: outer) a Z L0 s.heap) (hQ : ∀ h', HandSPX.HeldZ (PySem.W.hideAll B [C]) (env :: outer) a Z L h' → s.heap.UpToSlots h' → Q () { s with heap := h' }) : wpAny M A (noteFrame (.ref a) env) Q E s := by
  rcases x with ⟨hB, hn, hl, oe, vs, he, hz, hd, h1⟩ | ⟨hB, hn, hl, ht⟩ | ⟨hB, hn, hl, ht⟩
  · exact HandSPX.look_newZ hZ hfr (frames_hide hl) hf he (fun b o e => hB b o (hide_of e).1) (hide_nn hn) hd h1 hz hQ
  · exact notes_any hZ hfr hf (fun b o e => hB b o (hide_of e).1) (hide_nn hn) (frames_hide hl) (traced_hide ht) hQ
  · exact notes_any hZ hfr hf (fun b o e => hB b o (hide_of e).1) (hide_nn hn) (frames_hide hl) (traced_hide ht) hQ
section
variable {X : Cx} {pins : List (Addr × Obj)} {σ : L2.St} {H3 : Hp} {s3 : Shared}
/-- an exception out of a block -/
theorem block_fails {W W' : WX} {scope : Scope} {fp : List Addr} {ce : PySem.Env} {xe : Value → Shared → Prop} {u : Value} {s' : Shared} (I3 : L2.Inv X pins σ H3 s3) (f3 : ∀ b ∈ fp, FpOk X pins H3 b) (hs : X.stack = X.env :: X.outer) (hf : X.env.frame = some X.env.locals) (tk : Takes X W)
    (hW : ∀ c d σ' H, W' c d σ' H → W c d σ H) (cL : ce.locals = s3.heap.objs.size) (cF : ce.frame = X.env.frame) (x : XE ((X.blk s3 H3 scope ce fp).tr [] xe) W' u s') :
    notedBy (model X.prog X.w) X.A ce (CompFails (model X.prog X.w) X.A X.xe ce) u s' := by
  obtain ⟨a, B, sI, pins', σ', H, cls, d, rfl, J, nb, up, sky, na, os, ag, w⟩ := x
  have IX : L2.Inv X pins σ H sI := I3.call' (ch := fp) J.os J.base J.hok J.bare fun b hb => ⟨(f3 b hb).2.2.2.1, (f3 b hb).2.1, (f3 b hb).2.2.2.2.1, (f3 b hb).2.2.2.2.2⟩
  have nC : H s3.heap.objs.size = none := by
    have z : H ce.locals = none := J.free
    rwa [cL] at z
  obtain ⟨m, hn, _⟩ := J.loc
  have hn : sI.heap.Ns ce.locals m := hn
  have FC : FpOk X pins H s3.heap.objs.size := I3.fpOk (Nat.le_refl _) nC
  have hfr : X.A.frames = some (X.env :: X.outer) := by rw [IX.ok.frames, hs]
  have sky : Sky B X.stack a (Zc cls d) ce.locals s'.heap := sky
  rw [hs] at sky
  show wpAny _ _ (noteFrame (.ref a) ce) _ _ s'
  rw [noteFrame_env _ cF]
  refine sky_notes (C := ce.locals) Zc.steady hfr hf sky fun h1 ⟨b1, b0, fr1, tr1⟩ up1 => ?_
  have hn1 : h1.Ns ce.locals m := (Heap.UpToSlots.trans up up1).ns hn
  refine ⟨m, hn1, fun h2 m2 hn2 sb => ?_⟩
  have b2 : (PySem.W.hideAll B [ce.locals]).StaysIn h2 := fun b o e => (sb.2 b (hide_of e).2).trans (b1 b o e)
  have f2 := Heap.FunFrames.sameBut sb hn2 fr1
  obtain ⟨oe, vs, T, oT, ts, he, hz, hd, q1, nT, Te, hT, dT, q3⟩ := tr1
  have neC : ∀ b o vs, h1.get? b = some o → o.data = .fields vs → b ≠ ce.locals := fun b o vs e hd z => by
    obtain ⟨oL, es, ep, hoL, hdL, _⟩ := hn1
    rw [z, hoL] at e
    cases e
    rw [hdL] at hd
    cases hd
  have t2 : HandSPX.TracedZ h2 (PySem.W.hideAll B [ce.locals]) a (Zc cls d) (rawInt X.env.locals) := ⟨oe, vs, T, oT, ts, (sb.2 a (neC a oe vs he hd)).trans he, hz, hd, q1, nT, Te, (sb.2 T (neC T oT ts hT dT)).trans hT, dT, q3⟩
  have he2 : h2.get? a = some oe := (sb.2 a (neC a oe vs he hd)).trans he
  unfold PySem.passOn
  refine wpAny_bind (wpAny_field (s := { s' with heap := h2 }) he2 hd q1 ?_)
  rw [if_neg (show ¬ ((Value.ref T == Value.none) = true) from by simp), cF, hf]
  refine wpAny_bind (HandSPX.setFlight_onZ (s := { s' with heap := h2 }) ⟨b2, b0, f2, t2⟩ fun h3 hh3 up3 => ?_)
  refine wpAny_throw (tk _ _ ?_)
  have cn : ce.locals ≠ X.env.locals := by rw [cL]; exact FC.2.1
  refine ⟨a, PySem.W.hideAll B [ce.locals], { sI with heap := PySem.W.hideAll sI.heap [ce.locals] }, pins, σ, H, cls, d, rfl, ?_, fun b o e hb => ?_, fun b o e hnf => ?_, .inr (.inr (by rw [hs]; exact hh3)), na, os, ag, hW _ _ _ _ w⟩
  · have FC' : FpOk X pins H ce.locals := by rw [cL]; exact FC
    obtain ⟨z0, z1, z2, z3, z4, z5⟩ := FC'
    exact IX.turned (t' := sI.toks) (fun b o hb e => hide_at e hb) z0 z1 z3 z4 z5
  · obtain ⟨e1, e2⟩ := hide_of e
    exact hide_at (nb b o e1 hb) e2
  · obtain ⟨e1, e2⟩ := hide_of e
    obtain ⟨sl, e3⟩ := Heap.UpToSlots.trans up up1 b o e1 hnf
    obtain ⟨sl2, e4⟩ := up3 b _ ((sb.2 b e2).trans e3) hnf
    exact ⟨sl2, e4⟩
/-- what is asked of the element's exceptions: the def's own frame runs, or there are none -/
def Out1 (X : Cx) (W W' : WX) (σ : L2.St) : Prop := (X.stack = X.env :: X.outer ∧ X.env.frame = some X.env.locals ∧ Takes X W ∧ ∀ c d σ' H, W' c d σ' H → W c d σ H) ∨ ∀ c d σ' H, ¬ W' c d σ' H
/-- where the block's own exceptions go -/
theorem block_takes {W W' : WX} {scope : Scope} {fp : List Addr} {ce : PySem.Env} (I3 : L2.Inv X pins σ H3 s3) (f3 : ∀ b ∈ fp, FpOk X pins H3 b) (hx : Out1 X W W' σ) (cL : ce.locals = s3.heap.objs.size) (cF : ce.frame = X.env.frame) :
    Takes ((X.blk s3 H3 scope ce fp).tr [] (notedBy (model X.prog X.w) X.A ce (CompFails (model X.prog X.w) X.A X.xe ce))) W' := fun u s' x => by
  rcases hx with ⟨h1, h2, h3, h4⟩ | h
  · exact block_fails I3 f3 h1 h2 h3 h4 cL cF x
  · obtain ⟨a, B, sI, pins', σ', H, cls, d, e, J, nb, up, sky, na, os, ag, w⟩ := x
    exact absurd w (h _ _ _ _)
theorem inv_xe {Y : Cx} {pins : List (Addr × Obj)} {σ : L2.St} {H : Hp} {s : Shared} (xe : Value → Shared → Prop) (hp : Y.pn = []) (I : L2.Inv Y pins σ H s) : L2.Inv (Y.tr [] xe) pins σ H s :=
  ⟨I.ok.toTry _ _, I.os, I.bare, I.base, I.loc, I.cell, I.free, I.freeC, fun p q => I.pin p (by rw [hp]; exact q), I.hok, I.len⟩
theorem inv_un {Y : Cx} {pins : List (Addr × Obj)} {σ : L2.St} {H : Hp} {s : Shared} {xe : Value → Shared → Prop} (hp : Y.pn = []) (ok : Y.Ok) (I : L2.Inv (Y.tr [] xe) pins σ H s) : L2.Inv Y pins σ H s :=
  ⟨ok, I.os, I.bare, I.base, I.loc, I.cell, I.free, I.freeC, fun p q => I.pin p (by rw [hp] at q; exact q), I.hok, I.len⟩
theorem lcx_core {s : Shared} {H : Hp} {Q : VK} {elt tg iter : Expr} {ifs : List Expr} {scope : Scope} {own : List (Str × Nat)} {pos pos' : Pos} {wi : TI} {g : TG} {tt : TT} {te : TE} {W W' : WX} {use : Option (Value → Sem Unit)} {Qf : Value → Shared → Prop}
    (hc : X.calm = true) (hN : X.N.Nodup) (I : L2.Inv X pins σ H s) (hi : PI X tg iter wi) (ok : BlkOk X.N X.env.scope scope own)
    (hg : ∀ (s : Shared) (H : Hp) (C : Addr) (cl : List (Str × Addr)) (fp : List Addr), PG (X.blk s H scope (compEnvC scope cl C X.env) fp) tg g) (ht : ∀ (s : Shared) (H : Hp) (C : Addr) (cl : List (Str × Addr)) (fp : List Addr), PTs (X.blk s H scope (compEnvC scope cl C X.env) fp) ifs tt)
    (he : ∀ (s : Shared) (H : Hp) (C : Addr) (cl : List (Str × Addr)) (fp : List Addr) (xe : Value → Shared → Prop), Takes ((X.blk s H scope (compEnvC scope cl C X.env) fp).tr [] xe) W' → PE ((X.blk s H scope (compEnvC scope cl C X.env) fp).tr [] xe) elt te)
    (hx : Out1 X W W' σ) (hs : ∀ x, foldedSetIterable iter X.env x = pure x) (h : tLc wi g tt te (own.map (·.2)) σ H Q)
    (hR : ∀ (D : Addr) (ce : PySem.Env) (s' : Shared) (m : Str → Option Value) (H' : Hp), L2.Inv X pins σ H' s' → Q (.ref D) H' → s'.heap.Ns ce.locals m → FpOk X pins H' ce.locals → compEnds (model X.prog X.w) X.A X.xe use Qf (.ref D) ce (.ok .next) s') :
    wpAny (model X.prog X.w) X.A (comprehension (.ListComp elt [⟨tg, iter, ifs, 0⟩] scope pos) scope X.env pos' (newList []) false (eval iter X.env) use) Qf X.xe s := by
  have hfree : ∀ y ∈ scope.names, y.2 = .free → ∃ c, X.env.cells.lookup y.1 = some c := fun y hy e => (ok.free y hy e).elim (fun k => I.ok.has _ (.inl k)) fun k => I.ok.has _ (.inr k)
  refine comprehension_at (use := use) rfl hs (closure_ok hfree) ok.kind (fun y hy e => by rw [ok.uniq y hy, e]) (thn (hi.run pins s σ H _ I h) fun xv s1 hv => thn hv fun itv s2 hit => ?_)
  obtain ⟨it, fp, tn, J, H2, rfl, I2, T, st2, f2, q⟩ := hit
  refine wpAny_newObj_type (newEnv_comp ?_) (by show 0 ≤ sizeLine; decide)
  obtain ⟨D, hD⟩ : ∃ D, D = s2.heap.objs.size := ⟨_, rfl⟩
  rw [← hD]
  have hDn : H2 D = none := I2.hok.fresh (Nat.le_of_eq hD.symm)
  obtain ⟨M, ⟨m0, w0⟩, turn⟩ := q D hDn
  obtain ⟨s3, hs3⟩ : ∃ s3 : Shared, s3 = { s2 with heap := s2.heap.push { cls := .type "list", data := .seq ([] : List Value).toArray } } := ⟨_, rfl⟩
  rw [← hs3]
  have old3 : ∀ b o, s2.heap.get? b = some o → s3.heap.get? b = some o := fun b o e => by rw [hs3]; exact Heap.get?_push_of_some _ e
  have I3 : L2.Inv X pins σ (upd H2 D (.lst [])) s3 := by
    rw [hs3]
    refine I2.laid (t' := s2.toks) (fun b o e => Heap.get?_push_of_some _ e) (Nat.le_of_eq hD.symm) ⟨Nat.zero_le _, [], 0, .nil, ?_⟩
    rw [hD]
    exact Heap.get?_push_size _ rfl
  have lt2 : ∀ b ∈ fp, b < s2.heap.objs.size := fun b hb => by
    obtain ⟨o, e, _⟩ := T.obj _ _ st2 b hb
    exact Heap.lt_size e
  have f3 : ∀ b ∈ fp, FpOk X pins (upd H2 D (.lst [])) b := fun b hb => ⟨by rw [upd_ne (by rw [hD]; exact Nat.ne_of_lt (lt2 b hb))]; exact (f2 b hb).1, (f2 b hb).2⟩
  have sz3 : ∀ b ∈ fp, b < s3.heap.objs.size := fun b hb => by
    rw [hs3]
    show b < (s2.heap.push _).objs.size
    rw [Heap.size_push]
    exact Nat.lt_succ_of_lt (lt2 b hb)
  obtain ⟨H3, hH3⟩ : ∃ H3, H3 = upd H2 D (.lst []) := ⟨_, rfl⟩
  rw [← hH3] at w0 I3 f3
  have I4 := block_start I3 ok hN fun b hb => ⟨f3 b hb, sz3 b hb⟩
  obtain ⟨cl, hcl⟩ : ∃ cl, cl = cellsFrom (s3.heap.objs.size + 1) scope.names (cloFrom X.env.cells scope.names []) := ⟨_, rfl⟩
  have pg := hg s3 H3 s3.heap.objs.size cl fp
  have pt := ht s3 H3 s3.heap.objs.size cl fp
  have pe := he s3 H3 s3.heap.objs.size cl fp
  show codeAny _ _ (.compStart (.ListComp elt [⟨tg, iter, ifs, 0⟩] scope pos) 0 (.ref it) (.ref D) (compEnvC scope (cellsFrom (s3.heap.objs.size + 1) scope.names (cloFrom X.env.cells scope.names [])) s3.heap.objs.size X.env)) (compEnds (model X.prog X.w) X.A X.xe use Qf (.ref D) (compEnvC scope (cellsFrom (s3.heap.objs.size + 1) scope.names (cloFrom X.env.cells scope.names [])) s3.heap.objs.size X.env)) { s3 with heap := pushCells (s3.heap.push { cls := .type "dict", data := .dict #[] }) scope.names }
  rw [← hcl] at I4 ⊢
  obtain ⟨ce, hce⟩ : ∃ ce, ce = compEnvC scope cl s3.heap.objs.size X.env := ⟨_, rfl⟩
  rw [← hce] at I4 pg pt pe ⊢
  have cL : ce.locals = s3.heap.objs.size := by rw [hce]; rfl
  have cF : ce.frame = X.env.frame := by rw [hce]; rfl
  have pe := pe _ (block_takes (scope := scope) I3 f3 hx cL cF)
  obtain ⟨s4, hs4⟩ : ∃ s4 : Shared, s4 = { s3 with heap := pushCells (s3.heap.push { cls := .type "dict", data := .dict #[] }) scope.names } := ⟨_, rfl⟩
  rw [← hs4] at I4 ⊢
  have st4 : tn 0 s4.heap := T.keep _ _ _ st2 fun b _ o e => by
    rw [hs4]
    exact pushCells_keeps _ _ _ _ (Heap.get?_push_of_some _ (old3 b o e))
  have stat : ∀ {σ' : L2.St} {H' : Hp} {s' : Shared}, L2.Inv (X.blk s3 H3 scope ce fp) [] σ' H' s' → (∀ b ∈ fp, H' b = none) → ∀ b ∈ fp, FpOk (X.blk s3 H3 scope ce fp) [] H' b := fun {σ' H' s'} J' hn b hb =>
    ⟨hn b hb, (J'.ok.exf b hb).1, J'.ok.exfs b hb, .inl hb, fun x c e => (J'.ok.exf b hb).2 x c e, fun p hp => absurd (show p ∈ ([] : List (Addr × Obj)) ++ [] from hp) (by simp)⟩
  refine codeAny_compStart_list ?_ (T.self X.A 0 _ _ _ st4 ?_) <;>
  · refine compLoop_any (fun n s' => ∃ i H', L2.Inv (X.blk s3 H3 scope ce fp) [] (wipe σ (own.map (·.2))) H' s' ∧ tn i s'.heap ∧ (∀ b ∈ fp, H' b = none) ∧ M i n H') ?_ m0 ⟨0, H3, I4, st4, fun b hb => (f3 b hb).1, w0⟩
    rintro n s5 ⟨i, H5, I5, st5, n5, w5⟩
    rcases turn i n H5 w5 with ⟨stop, qq⟩ | ⟨go, Nx, hNx, step⟩
    · refine thnF (T.done (X.blk s3 H3 scope ce fp) rfl rfl rfl hc i [] s5 _ H5 (fun _ _ => False) I5 (stat I5 n5) st5 stop) fun r s6 ⟨hr, I6⟩ => ?_
      subst hr
      have I7 : L2.Inv X pins σ H5 s6 := I3.call' (ch := fp) I6.os I6.base I6.hok I6.bare fun b hb => ⟨(f3 b hb).2.2.2.1, (f3 b hb).2.1, (f3 b hb).2.2.2.2.1, (f3 b hb).2.2.2.2.2⟩
      obtain ⟨m, hn, _⟩ := I6.loc
      have nC : H5 s3.heap.objs.size = none := by
        have z : H5 ce.locals = none := I6.free
        rwa [cL] at z
      exact hR D ce s6 m H5 I7 qq hn (by rw [cL]; exact I3.fpOk (Nat.le_refl _) nC)
    · refine thnF (T.item (X.blk s3 H3 scope ce fp) rfl rfl rfl hc i [] s5 _ H5 (fun _ _ => False) I5 (stat I5 n5) st5 go) fun r s6 ⟨u, hr, h6⟩ => ?_
      subst hr
      refine thnF h6 fun _ s7 ⟨x, H7, I7, r7, y7, st7, n7⟩ => ?_
      refine thnF (pg.run _ s7 _ H7 x u _ (I7.pinned (stat I7 n7) (T.obj _ _ st7)) r7 (step x H7 y7)) fun _ s8 ⟨σ8, H8, I8, hw8, q8⟩ => ?_
      refine thnF (pt.run _ s8 σ8 H8 _ I8 q8) fun b s9 ⟨H9, I9, q9⟩ => ?_
      have fin : ∀ {s' : Shared} {H' : Hp}, L2.Inv (X.blk s3 H3 scope ce fp) ([] ++ pinsAt fp s7.heap) σ8 H' s' → Nx H' → ∃ m, m < n ∧ ∃ i H', L2.Inv (X.blk s3 H3 scope ce fp) [] (wipe σ (own.map (·.2))) H' s' ∧ tn i s'.heap ∧ (∀ b ∈ fp, H' b = none) ∧ M i m H' := fun {s' H'} J' nx => by
        obtain ⟨m', hm, w'⟩ := hNx H' nx
        have at7 : ∀ b ∈ fp, ∀ o, s7.heap.get? b = some o → s'.heap.get? b = some o ∧ H' b = none := fun b hb o e => by
          have z := J'.pin (b, o) (List.mem_append_right _ (List.mem_append_right _ (mem_pinsAt hb e)))
          exact ⟨z.1, z.2.1⟩
        refine ⟨m', hm, i + 1, H', (J'.unpinned (pins := [])).weak (by rw [← hw8, wipe_length]) (fun j v e => ?_), T.keep _ _ _ st7 fun b hb o e => (at7 b hb o e).1, fun b hb => ?_, w'⟩
        · rw [← hw8] at e
          exact (wipe_some e).1
        · obtain ⟨o, e, _⟩ := T.obj _ _ st7 b hb
          exact (at7 b hb o e).2
      cases b with
      | false =>
        simp only [Bool.false_eq_true, if_false] at q9 ⊢
        exact fin I9 q9
      | true =>
        simp only [if_true] at q9 ⊢
        refine wpAny_mono (pe.run ([] ++ pinsAt fp s7.heap) s9 σ8 H9 _ (inv_xe _ rfl I9) q9) (fun z s10 hz => ?_) fun e s' hx => ?_
        · obtain ⟨yv, H10, I10, r10, acc, hD10, hz10, nx⟩ := hz
          have I10' : L2.Inv (X.blk s3 H3 scope ce fp) ([] ++ pinsAt fp s7.heap) σ8 H10 s10 := inv_un rfl I9.ok I10
          exact app_ok (X := X.blk s3 H3 scope ce fp) I10' hD10 hz10 r10 fun s11 I11 => fin I11 nx
        · cases use <;> exact hx
end
/-- a wish told at a block's begin -/
def WAt (W : WX) (σ : L2.St) : WX := fun cls d _ H => W cls d σ H
/-- a comprehension, its element told with the names at its begin -/
def tLcX (wi : TI) (g : TG) (tt : TT) (te : L2.St → TE) (vs : List Nat) : TE := fun σ H Q => tLc wi g tt (te σ) vs σ H Q
section
variable {X : Cx}
theorem pe_lcX {elt tg iter : Expr} {ifs : List Expr} {scope : Scope} {own : List (Str × Nat)} {pos : Pos} {wi : TI} {g : TG} {tt : TT} {te : L2.St → TE} {W : WX} {W' : L2.St → WX} (hc : X.calm = true) (hN : X.N.Nodup) (hi : PI X tg iter wi) (ok : BlkOk X.N X.env.scope scope own)
    (hg : ∀ (s : Shared) (H : Hp) (C : Addr) (cl : List (Str × Addr)) (fp : List Addr), PG (X.blk s H scope (compEnvC scope cl C X.env) fp) tg g) (ht : ∀ (s : Shared) (H : Hp) (C : Addr) (cl : List (Str × Addr)) (fp : List Addr), PTs (X.blk s H scope (compEnvC scope cl C X.env) fp) ifs tt)
    (he : ∀ (σ : L2.St) (s : Shared) (H : Hp) (C : Addr) (cl : List (Str × Addr)) (fp : List Addr) (xe : Value → Shared → Prop), Takes ((X.blk s H scope (compEnvC scope cl C X.env) fp).tr [] xe) (W' σ) → PE ((X.blk s H scope (compEnvC scope cl C X.env) fp).tr [] xe) elt (te σ))
    (hx : ∀ σ, Out1 X W (W' σ) σ) (hs : ∀ x, foldedSetIterable iter X.env x = pure x) :
    PE X (.ListComp elt [⟨tg, iter, ifs, 0⟩] scope pos) (tLcX wi g tt te (own.map (·.2))) := by
  refine ⟨fun pins s σ H Q I h => ?_⟩
  rw [eval_ListComp]
  refine lcx_core (use := none) hc hN I hi ok hg ht (he σ) (hx σ) hs h fun D ce s' m H' J q hn f => ⟨m, hn, fun h'' sb => ?_⟩
  obtain ⟨f0, f1, f2, f3, f4, f5⟩ := f
  exact ⟨.ref D, H', J.turned (t' := s'.toks) (fun b o hb e => (sb.2 b hb).trans e) f0 f1 f3 f4 f5, rfl, q⟩
end
end Lh
set_option Elab.async false
set_option linter.all false
set_option maxRecDepth 100000
set_option maxHeartbeats 4000000
namespace Lh
open PySem PySem.Spec PyProof.Rows L2
variable {K : PySem.W.Frag} {mg : Str → Option Value} {W : WX}
def rdX (K : PySem.W.Frag) (mg : Str → Option Value) (W : WX) (elt : E) (tg : Tg) (src : Src) (own : List Nat) : TE := rdB1 K mg .tuple (tLcX (rdSrc K mg W src) (rdTg K tg) tYes (fun σ => (rd K mg (WAt W σ) elt).1) own)
theorem compX_len {f : Val → Res Val} : ∀ {l ws : List Val}, compX f l = .ok ws → ws.length = l.length
  | [], ws, h => by
    cases h
    rfl
  | x :: xs, ws, h => by
    obtain ⟨v, e1, h⟩ := bind_ok h
    obtain ⟨vs, e2, h⟩ := bind_ok h
    cases h
    rw [List.length_cons, List.length_cons, compX_len e2]
theorem den_compX {wi : TI} {ds : Env → Res (List Val)} {te : L2.St → TE} {fe : Bool} {de : Env → Res Val} {tg : Tg} {own : List Nat} (hs : DenS K mg W wi ds) (he : ∀ σ, Den K mg (WAt W σ) (te σ) fe de) (htg : tgIn tg own = true) :
    Den K mg W (tLcX wi (rdTg K tg) tYes te own) true (fun ρ => (ds ρ).bind fun items => (compX (stepX tg own de ρ) items).bind fun vs => .ok (.lst vs)) := by
  have core : ∀ (N : Addr → Prop) (H : Hp) (σ : L2.St) (ρ : Env) (items : List Val) (r : Res (List Val)) (Q : VK), Fr H N → Ev K N H σ ρ → ds ρ = .ok items → compX (stepX tg own de ρ) items = r → r ≠ .stuck →
      (∀ vs, r = .ok vs → ∀ v H', Same H H' → Rep K N H' v (.lst vs) → (∀ a ws, v = .ref a → Val.lst vs = .lst ws → NewL K N H H' a ws) → Q v H') → (∀ c, r = .exc c → ExcW mg W σ H c) → tLcX wi (rdTg K tg) tYes te own σ H Q := by
    intro N H σ ρ items r Q f e e1 er hr kok kex
    refine hs.ok N H σ ρ items _ f e e1 fun J H1 G Y s1 hl wk g0 st D hD => ?_
    obtain ⟨N', hN'⟩ : ∃ N' : Addr → Prop, N' = fun a => N a ∧ a ≠ D := ⟨_, rfl⟩
    have hn : ∀ a, N a → H1 a ≠ none → N' a := fun a ha h0 => by
      rw [hN']
      exact ⟨ha, fun z => h0 (by rw [z]; exact hD)⟩
    have hsub : ∀ a, N' a → N a := fun a ha => by
      rw [hN'] at ha
      exact ha.1
    obtain ⟨stG, stY⟩ := st N' hn
    have kD : ∀ {H4 : Hp} {acc acc' : List V}, H4 D = some (.lst acc) → Keep N' H4 (upd H4 D (.lst acc')) := fun {H4 acc acc'} h4 a o ha hm => by
      have hne : a ≠ D := fun z => by
        subst z
        rcases hm with hm | hm
        · rw [hN'] at hm
          exact hm.2 rfl
        · rw [h4] at ha
          cases ha
          exact hm
      rw [upd_ne hne]
      exact ha
    have f1 := f.same s1
    refine lc_it wk (fun i H2 => ∃ acc dn, H2 D = some (.lst acc) ∧ Reps K N' H2 acc dn ∧ r = ((compX (stepX tg own de ρ) (items.drop i)).bind fun vs => .ok (dn ++ vs)) ∧ Same H1 H2 ∧ Fr H2 N' ∧ acc.length ≤ i) ?_ ?_ ?_ ?_
    · refine ⟨[], [], upd_same, .nil, ?_, same_upd hD, fun a ha => ?_, Nat.le_refl _⟩
      · rw [List.drop_zero, er]
        cases r <;> rfl
      · have hne : a ≠ D := fun z => by
          rw [z, upd_same] at ha
          exact nomatch ha
        rw [upd_ne hne] at ha
        rw [hN']
        exact ⟨f1 a ha, hne⟩
    · rintro i H2 hi ⟨acc, dn, h1, h2, h3, h5, h6, h7⟩
      exact stG H1 H2 (.of h5) g0
    · rintro i x H2 H3 hi ⟨acc, dn, h1, h2, h3, h5, h6, h7⟩ y
      obtain ⟨w, ew, s3, rw'⟩ := stY i H2 x H3 hi (.of h5) (stG H1 H2 (.of h5) g0) y
      have hlt : i < items.length := hi
      rw [List.drop_eq_getElem_cons hlt] at h3
      have ew2 : items[i] = w := by
        rw [List.getElem?_eq_getElem hlt] at ew
        exact Option.some.inj ew
      rw [ew2] at h3
      have h53 : Same H1 H3 := h5.trans s3
      have ev3 : Ev K N' H3 (L2.wipe σ own) (kill ρ own) := ((e.same s1).wipe own).more hn h53
      have h3' : r = (((stepX tg own de ρ w).bind fun v => (compX (stepX tg own de ρ) (items.drop (i + 1))).bind fun vs => .ok (v :: vs)).bind fun vs => .ok (dn ++ vs)) := h3
      cases eb : bindT tg w (kill ρ own) with
      | none =>
        have es : stepX tg own de ρ w = .stuck := by
          unfold stepX
          rw [eb]
        rw [es] at h3'
        exact absurd h3' hr
      | some ρ' =>
        have es : stepX tg own de ρ w = de ρ' := by
          unfold stepX
          rw [eb]
        rw [es] at h3'
        refine den_tg ev3 rw' eb fun σ2 e2' hw => ⟨by rw [hw own htg, wipe_wipe], ?_⟩
        simp only [tYes, if_true]
        cases ev : de ρ' with
        | stuck =>
          have : r = .stuck := by rw [h3', ev]; rfl
          exact absurd this hr
        | exc c =>
          have rc : r = .exc c := by rw [h3', ev]; rfl
          exact (he σ).exc N' H3 σ2 ρ' c _ (h6.same s3) e2' ev fun C H' s' m => kex c rc C H' ((s1.trans h53).trans s') m
        | ok v =>
          refine (he σ).ok N' H3 σ2 ρ' v _ (h6.same s3) e2' ev fun z H5 s5 r5 _ => ?_
          have s25 : Same H2 H5 := s3.trans s5
          refine ⟨acc, s25 _ _ h1, Nat.lt_of_lt_of_le (Nat.lt_of_le_of_lt h7 hlt) (Nat.le_trans hl (by decide)), ?_⟩
          refine ⟨acc ++ [z], dn ++ [v], upd_same, ?_, ?_, ?_, ?_, ?_⟩
          · exact ((h2.same s25).append (.cons r5 .nil)).keep (fun _ n _ => n) (kD (s25 _ _ h1))
          · rw [h3', ev]
            show ((compX (stepX tg own de ρ) (items.drop (i + 1))).bind _).bind _ = _
            cases compX (stepX tg own de ρ) (items.drop (i + 1)) with
            | ok vs =>
              show Res.ok (dn ++ v :: vs) = .ok (dn ++ [v] ++ vs)
              rw [List.append_assoc]
              rfl
            | exc c => rfl
            | stuck => rfl
          · intro a o ha
            have hne : a ≠ D := fun z => by
              rw [z, hD] at ha
              exact nomatch ha
            rw [upd_ne hne]
            exact s25 _ _ (h5 _ _ ha)
          · intro a ha
            have hne : a ≠ D := fun z => by
              rw [z, upd_same] at ha
              exact nomatch ha
            rw [upd_ne hne] at ha
            exact ((h6.same s25)) a ha
          · rw [List.length_append]
            simp only [List.length_cons, List.length_nil]
            omega
    · rintro H2 ⟨acc, dn, h1, h2, h3, h5, h6, h7⟩
      rw [List.drop_length] at h3
      have rv : r = .ok dn := by
        rw [h3]
        show Res.ok (dn ++ []) = _
        rw [List.append_nil]
      have hlen : dn.length ≤ cap := by
        rw [rv] at er
        rw [compX_len er]
        exact hl
      refine kok dn rv _ _ (s1.trans h5) (.lst (f1 D hD) h1 hlen (h2.more hsub)) fun a ws ez ew => ?_
      cases ez
      cases ew
      subst hN'
      exact ⟨s1.free hD, acc, h1, h2⟩
  refine ⟨fun N H σ ρ w Q f e q k => ?_, fun N H σ ρ c Q f e q k => ?_⟩
  · obtain ⟨items, e1, q⟩ := bind_ok q
    obtain ⟨vs, e2, q⟩ := bind_ok q
    cases q
    refine core N H σ ρ items (.ok vs) Q f e e1 e2 (fun z => nomatch z) (fun vs' ev v H' s r nw => ?_) fun c z => nomatch z
    cases ev
    exact k v H' s r fun _ => nw
  · rcases bind_exc q with q | ⟨items, e1, q⟩
    · exact hs.exc N H σ ρ c _ f e q k
    · rcases bind_exc q with q | ⟨vs, e2, q⟩
      · refine core N H σ ρ items (.exc c) Q f e e1 q (fun z => nomatch z) (fun vs z => nomatch z) fun c' z => ?_
        cases z
        exact k
      · exact nomatch q
theorem den_tupX {elt : E} {tg : Tg} {src : Src} {own : List Nat} (h1 : wf elt = true) (h2 : wfsrc src = true) (h3 : tgIn tg own = true) : Den K mg W (rdX K mg W elt tg src own) false (evX elt tg src own) :=
  den_b1 (a := elt) .tuple (den_compX (fe := freshTop elt) (de := evE elt) (densrc W src h2) (fun σ => (den (WAt W σ) elt h1).1) h3)
end Lh
set_option Elab.async false
set_option linter.all false
set_option maxRecDepth 100000
set_option maxHeartbeats 4000000
namespace Lh
open PySem PySem.Spec PyProof.Rows L2
open PySem.Sem (wp)
open AutoSeq1 (wpAny_loadPart')
theorem meets_enumT (l : Addr) (items : Array Value) :
    Meets (Builtin.«enumerate.__new__» ⟨[.type "enumerate", .ref l], []⟩) (fun _ R s => s.heap.IsTuple l items ∧
      R (.ok (.ret (.ref (s.heap.push { cls := .type "tuple_iterator", data := .fields #[.ref l, .int 0 0] }).objs.size)))
        { s with heap := (s.heap.push { cls := .type "tuple_iterator", data := .fields #[.ref l, .int 0 0] }).push { cls := .type "enumerate", data := .fields #[.none, .bool false, .ref s.heap.objs.size, rawInt 0, .none, .none] } }) :=
  .of_wp fun prog w A R s h => by
    obtain ⟨hp, g, d, tk, os⟩ := s
    obtain ⟨hl, h⟩ := h
    have hsub := sub_enumerate
    have hL : Heap.IsTuple (Shared.heap ⟨hp, g, d, tk, os⟩) l items := hl
    wp_walk
    refine wpAny_stack_any fun st => wpAny_pure ?_
    split
    · rename_i c _ _ _ _ _
      cases (c == Value.type "enumerate")
      · wp_walk using wpAny_pyIter_tuple hL
        exact ⟨_, rfl, h⟩
      · wp_walk using wpAny_pyIter_tuple hL
        exact ⟨_, rfl, h⟩
    · wp_walk using wpAny_pyIter_tuple hL
      exact ⟨_, rfl, h⟩
section
variable {prog : Program} {w : World} {A : Around} {E : Value → Shared → Prop} {s : Shared}
theorem call_enumT {l : Addr} {items : Array Value} {Q : Value → Shared → Prop} (hL : s.heap.IsTuple l items)
    (h : ∀ h', IsEnum h' (s.heap.objs.size + 1) s.heap.objs.size 0 .none → h'.IsTupleIter s.heap.objs.size l 0 → h'.objs.size = s.heap.objs.size + 2 →
      (∀ b o, s.heap.get? b = some o → h'.get? b = some o) → Q (.ref (s.heap.objs.size + 1)) { s with heap := h' }) :
    wpAny (model prog w) A (call (.type "enumerate") [.ref l]) Q E s := by
  refine callType_new F.called_enumerate (by decide) (F.typeCall_enumerate_1 _) (F.newCall_enumerate_1 _) (fun obj => F.args_object_init_2 obj _) F.entry_enumerate_new
    (meets_enumT l items) ⟨hL, ?_⟩
  have hz : (s.heap.push { cls := .type "tuple_iterator", data := .fields #[.ref l, .int 0 0] }).objs.size = s.heap.objs.size + 1 := Heap.size_push ..
  show _ ∧ _
  rw [hz]
  have he : IsEnum ((s.heap.push { cls := .type "tuple_iterator", data := .fields #[.ref l, .int 0 0] }).push
      { cls := .type "enumerate", data := .fields #[.none, .bool false, .ref s.heap.objs.size, rawInt 0, .none, .none] }) (s.heap.objs.size + 1) s.heap.objs.size 0 .none := by
    have := Heap.get?_push_size (s.heap.push { cls := .type "tuple_iterator", data := .fields #[.ref l, .int 0 0] })
      (o := { cls := .type "enumerate", data := .fields #[.none, .bool false, .ref s.heap.objs.size, rawInt 0, .none, .none] }) rfl
    rw [hz] at this
    exact this
  exact ⟨⟨_, he, rfl⟩, h _ he ⟨_, Heap.get?_push_of_some _ (Heap.get?_push_size _ rfl), rfl, rfl⟩ (by rw [Heap.size_push, hz]) fun b o x => Heap.get?_push_of_some _ (Heap.get?_push_of_some _ x)⟩
theorem draws_tup {it l : Addr} {items : Array Value} (hh : A.handled = none) (hne : it ≠ l) :
    Draws prog w A it [it, l] items.size (fun i x => items[i]? = some x) (fun i h => h.IsTupleIter it l i ∧ h.IsTuple l items) where
  live := fun i h st => by
    obtain ⟨⟨o, ho, _⟩, _⟩ := st
    exact ⟨o, ho⟩
  frame := fun i h h' st k => by
    obtain ⟨⟨o, ho, hc, hd⟩, ⟨o2, ho2, h2⟩⟩ := st
    exact ⟨⟨o, k it (by simp) o ho, hc, hd⟩, ⟨o2, k l (by simp) o2 ho2, h2⟩⟩
  item := fun i s Q E hi st hQ => by
    obtain ⟨hit, hl⟩ := st
    refine RZ.nextOf_tuple_item hit hl (x := items[i]) (by simp [hi]) fun h' hit' sb => hQ _ h' s.toks (by simp [hi]) ⟨hit', ?_⟩ sb
    obtain ⟨o2, ho2, h2⟩ := hl
    exact ⟨o2, (sb.2 l (Ne.symm hne)).trans ho2, h2⟩
  done := fun s Q E st hE => by
    obtain ⟨hit, hl⟩ := st
    exact RZ.nextOf_tuple_end hh hit hl (by simp) fun h' e hx he => hE h' e hx he
end
theorem enum_ne_tup {h : Heap} {e it a : Addr} {n : Int} {old : Value} {its : Array Value} (he : IsEnum h e it n old) (ht : h.IsTuple a its) : e ≠ a := by
  intro z
  subst z
  obtain ⟨o, ho, hc, _⟩ := ht
  have he2 : h.get? e = some _ := he
  rw [he2] at ho
  cases ho
  simp at hc
theorem iter_ne_tup {h : Heap} {it a : Addr} {i : Nat} {its : Array Value} (he : h.IsTupleIter it a i) (ht : h.IsTuple a its) : it ≠ a := by
  intro z
  subst z
  obtain ⟨o, ho, hc, hd⟩ := he
  obtain ⟨o2, ho2, hc2, _⟩ := ht
  rw [ho] at ho2
  cases ho2
  rw [hc] at hc2
  simp at hc2
theorem turn_enumT {P : Program} {w : World} {K : PySem.W.Frag} {elts : List Expr} {kk : Nat} {tpos : Pos} (a e it : Addr) :
    Turn P w K (.Tuple elts kk tpos) (IteT K a) [e, it] e (fun i h => (∃ old, IsEnum h e it ((i : Nat) : Int) old) ∧ h.IsTupleIter it a i ∧ e ≠ it) where
  mem := by simp
  obj := fun i h st b hb => by
    obtain ⟨⟨old, he⟩, ⟨o, ho, hc, hd⟩, _⟩ := st
    have e' : b = e ∨ b = it := by simpa using hb
    rcases e' with z | z
    · rw [z]
      exact ⟨_, he, fun v q => nomatch q⟩
    · rw [z]
      exact ⟨o, ho, fun v q => by
        rw [hd] at q
        cases q⟩
  keep := fun i h h' st k => let ⟨⟨old, he⟩, hi, hne⟩ := st; ⟨⟨old, k e (by simp) _ he⟩, hi.at fun o q => k it (by simp) o q, hne⟩
  item := by
    intro X hP hw hK hc i pins s σ H E I hf st hg
    subst hP hw hK
    obtain ⟨⟨old, he⟩, hit, hne⟩ := st
    obtain ⟨xs, x, hq, hx⟩ := hg
    obtain ⟨its, rv, p, hz⟩ := I.tuple hq
    obtain ⟨u, hu, ru⟩ := rv.get hx
    have hT : s.heap.IsTuple a its.toArray := p
    have hel : e < s.heap.objs.size := Heap.lt_size he
    have hil : it < s.heap.objs.size := by
      obtain ⟨_, q, _⟩ := hit
      exact Heap.lt_size q
    have hlt : i < its.toArray.size := by
      rw [List.size_toArray]
      exact (List.getElem?_eq_some_iff.mp hu).1
    have hea := enum_ne_tup he hT
    have hia := iter_ne_tup hit hT
    refine wpAny_pyNext_enum_itemD (draws_tup (prog := X.prog) (w := X.w) (A := X.A.in1) (items := its.toArray) (I.ok.hd hc) hia) he ⟨hit, hT⟩ hlt hne (by simp [hne, hea]) fun u' h' tk hu' ho hst hTn hsz hk => ?_
    have eu : u' = u := by
      have h1 : its.toArray[i]? = some u := by simpa using hu
      rw [h1] at hu'
      exact (Option.some.inj hu').symm
    subst eu
    refine ⟨_, rfl, wpAny_letOwnedTupleGo_enum (s := { s with heap := h', toks := tk + 1 }) ho fun h'' he' sb => ?_⟩
    have hT2 : h''.get? s.heap.objs.size = some { cls := .type "tuple", data := .seq #[.int i tk, u'] } := (sb.2 _ (Nat.ne_of_gt hel)).trans hTn
    have new : ObjOk X.prog X.w (upd H s.heap.objs.size (.tup [.int (i : Nat), x])) h'' s.heap.objs.size (.tup [.int (i : Nat), x]) :=
      ⟨by show 2 ≤ sizeLine; decide, [.int i tk, u'], .cons ⟨_, rfl⟩ (.cons ru .nil), ⟨_, hT2, rfl, _, rfl⟩⟩
    have I1 : Inv X pins σ (upd H s.heap.objs.size (.tup [.int (i : Nat), x])) { s with heap := h'', toks := tk + 1 } :=
      I.turnedNew (ch := [e, it]) (fun b ob hb q => (sb.2 b (fun z => hb (by simp [z]))).trans (hk b ob (fun z => hb (by simp [z])) (fun z => hb (by simp [z])) q)) hf (Nat.le_refl _) new
    refine ⟨.ref s.heap.objs.size, _, I1, rfl, ⟨_, x, rfl, I.hok.fresh (Nat.le_refl _), rfl, fun ys hy => by rw [I.tuple_inj hy hq]; exact hx⟩, ⟨⟨u', ?_⟩, hst.1.at fun o q => (sb.2 it (Ne.symm hne)).trans q, hne⟩, fun b hb => ?_⟩
    · have e1 : ((i + 1 : Nat) : Int) = (i : Int) + 1 := by omega
      rw [e1]
      exact he'
    · have hb' : b < s.heap.objs.size := by
        have e' : b = e ∨ b = it := by simpa using hb
        rcases e' with z | z
        · rw [z]
          exact hel
        · rw [z]
          exact hil
      rw [upd_ne (Nat.ne_of_lt hb')]
      exact (hf b hb).1
  done := by
    intro X hP hw hK hc i pins s σ H E I hf st hg
    subst hP hw hK
    obtain ⟨⟨old, he⟩, hit, hne⟩ := st
    obtain ⟨xs, hq, hx⟩ := hg
    obtain ⟨its, rv, p, hz⟩ := I.tuple hq
    have hT : s.heap.IsTuple a its.toArray := p
    obtain ⟨f0, f1, f2, f3, f4, f5⟩ := hf it (by simp)
    have hia := iter_ne_tup hit hT
    have hl := rv.length
    have hni : its.toArray[i]? = none := by simp; omega
    have hD : Draws X.prog X.w X.A.in1 it [it, a] i (fun _ _ => True) (fun j h => j = i ∧ h.IsTupleIter it a j ∧ h.IsTuple a its.toArray) :=
      { live := fun j h st => by
          obtain ⟨_, ⟨o, ho, _⟩, _⟩ := st
          exact ⟨o, ho⟩
        frame := fun j h h' st k => by
          obtain ⟨ej, ⟨o, ho, hc, hd⟩, ⟨o2, ho2, h2⟩⟩ := st
          exact ⟨ej, ⟨o, k it (by simp) o ho, hc, hd⟩, ⟨o2, k a (by simp) o2 ho2, h2⟩⟩
        item := fun j s Q E hj st hQ => absurd st.1 (Nat.ne_of_lt hj)
        done := fun s Q E st hE => RZ.nextOf_tuple_end (I.ok.hd hc) st.2.1 st.2.2 hni fun h' e hx he => hE h' e hx he }
    exact wpAny_pyNext_enum_endD hD he ⟨rfl, hit, hT⟩ fun h' eb => ⟨rfl, I.turned (t' := s.toks) (fun b o hb q => eb b o hb q) f0 f1 f3 f4 f5⟩
  self := fun A i s Q E st h => let ⟨⟨_, he⟩, _⟩ := st; wpAny_pyIter_enum he h
section
variable {X : Cx} {tg : Expr}
theorem pi_seq {l : Expr} {tl : TE} (hl : PE X l tl) : PI X tg l (iSeq X.K tl) := by
  refine ⟨fun pins s σ H R I h => ?_⟩
  refine thn (hl.run pins s σ H _ I h) fun v s1 ⟨x, H1, I1, r1, q1⟩ => ?_
  obtain ⟨a, e, q1⟩ := q1
  subst e
  cases r1
  rcases q1 with ⟨⟨xs, hq⟩, q⟩ | ⟨⟨xs, hq⟩, q⟩
  · obtain ⟨its, rv, p, hz⟩ := I1.list hq
    refine wpAny_pyIter_list p.isList ?_
    refine ⟨s1.heap.objs.size, [s1.heap.objs.size], _, _, H1, rfl, I1.kept (t' := s1.toks) fun b o e => Heap.get?_push_of_some _ e, turn_list a _, ⟨_, Heap.get?_push_size _ rfl, rfl, rfl⟩, fun b hb => ?_, q⟩
    have e : b = s1.heap.objs.size := by simpa using hb
    subst e
    exact I1.fpOk (Nat.le_refl _) (I1.hok.fresh (Nat.le_refl _))
  · obtain ⟨its, rv, p, hz⟩ := I1.tuple hq
    refine wpAny_pyIter_tuple (show s1.heap.IsTuple a its.toArray from p) ?_
    refine ⟨s1.heap.objs.size, [s1.heap.objs.size], _, _, H1, rfl, I1.kept (t' := s1.toks) fun b o e => Heap.get?_push_of_some _ e, turn_tuple a _, ⟨_, Heap.get?_push_size _ rfl, rfl, rfl⟩, fun b hb => ?_, q⟩
    have e : b = s1.heap.objs.size := by simpa using hb
    subst e
    exact I1.fpOk (Nat.le_refl _) (I1.hok.fresh (Nat.le_refl _))
theorem pi_enumA {e : Expr} {ta : TA} {p pos tpos : Pos} {elts : List Expr} {kk : Nat} (hg : Gl X "enumerate") (hm : X.mg "enumerate" = none) (ha : PA X [e] ta) (hs : starEach [e] X.env = [(false, eval e X.env)]) :
    PI X (.Tuple elts kk tpos) (.Call (.Name "enumerate" p) [e] [] pos) (iEnumA X.K ta) := by
  refine ⟨fun pins s σ H R I h => ?_⟩
  refine Call_ (ld_blt I hg hm PyProof.Rows.boot_enumerate (PyProof.Rows.callWith_type1 (thn (ha.run pos pins s σ H _ I h) fun us s1 ⟨vs, H1, I1, r1, q1⟩ => ?_) hs rfl))
  obtain ⟨a, ex, q1⟩ := q1
  subst ex
  cases r1 with
  | cons r rr =>
    cases rr
    cases r
    rcases q1 with ⟨⟨xs, hq⟩, q⟩ | ⟨⟨xs, hq⟩, q⟩
    · obtain ⟨its, rv, p', hz⟩ := I1.list hq
      refine call_enumerate_list p'.isList fun h' he hit hsz hk => wpAny_pyIter_enum he ?_
      have I2 : Inv X pins σ H1 { s1 with heap := h' } := I1.kept (t' := s1.toks) hk
      refine ⟨s1.heap.objs.size + 1, [s1.heap.objs.size + 1, s1.heap.objs.size], _, _, H1, rfl, I2, turn_enum a (s1.heap.objs.size + 1) s1.heap.objs.size, ⟨⟨.none, he⟩, hit, Nat.succ_ne_self _⟩, fun b hb => ?_, q⟩
      have e' : b = s1.heap.objs.size + 1 ∨ b = s1.heap.objs.size := by simpa using hb
      have hle : s1.heap.objs.size ≤ b := by rcases e' with z | z <;> (rw [z]; first | exact Nat.le_add_right _ _ | exact Nat.le_refl _)
      exact I1.fpOk hle (I1.hok.fresh hle)
    · obtain ⟨its, rv, p', hz⟩ := I1.tuple hq
      refine call_enumT (show s1.heap.IsTuple a its.toArray from p') fun h' he hit hsz hk => wpAny_pyIter_enum he ?_
      have I2 : Inv X pins σ H1 { s1 with heap := h' } := I1.kept (t' := s1.toks) hk
      refine ⟨s1.heap.objs.size + 1, [s1.heap.objs.size + 1, s1.heap.objs.size], _, _, H1, rfl, I2, turn_enumT a (s1.heap.objs.size + 1) s1.heap.objs.size, ⟨⟨.none, he⟩, hit, Nat.succ_ne_self _⟩, fun b hb => ?_, q⟩
      have e' : b = s1.heap.objs.size + 1 ∨ b = s1.heap.objs.size := by simpa using hb
      have hle : s1.heap.objs.size ≤ b := by rcases e' with z | z <;> (rw [z]; first | exact Nat.le_add_right _ _ | exact Nat.le_refl _)
      exact I1.fpOk hle (I1.hok.fresh hle)
end
end Lh
set_option Elab.async false
set_option linter.all false
set_option maxRecDepth 100000
set_option maxHeartbeats 4000000
namespace Lh
open PySem PySem.Spec PyProof.Rows L2
def visB (sc : Scope) (x : Str) : Bool := match sc.names.lookup x with
  | some .local => true
  | some .cell => true
  | some .free => true
  | _ => false
theorem visB_ok {sc : Scope} {x : Str} (h : visB sc x = true) : Vis sc x := by
  unfold visB at h
  split at h
  · exact .inl (by assumption)
  · exact .inr (.inl (by assumption))
  · exact .inr (.inr (by assumption))
  · cases h
def glB (sc : Scope) (x : Str) : Bool := match sc.names.lookup x with
  | some .globalImplicit => true
  | _ => false
theorem glB_ok {X : Cx} {x : Str} (h : glB X.env.scope x = true) : Gl X x := by
  unfold glB at h
  split at h
  · assumption
  · cases h
def okN (x : Str) : Bool := !(x == ("__debug__" : Str)) && !(x == ("__classdict__" : Str))
theorem okN1 {x : Str} (h : okN x = true) : (x == ("__debug__" : Str)) = false := by
  unfold okN at h
  rw [Bool.and_eq_true, Bool.not_eq_true', Bool.not_eq_true'] at h
  exact h.1
theorem okN2 {x : Str} (h : okN x = true) : (x == ("__classdict__" : Str)) = false := by
  unfold okN at h
  rw [Bool.and_eq_true, Bool.not_eq_true', Bool.not_eq_true'] at h
  exact h.2
def notStar : Expr → Bool
  | .Starred _ _ => false
  | _ => true
theorem star_cons {e : Expr} {es : List Expr} {env : PySem.Env} (h : notStar e = true) : starEach (e :: es) env = (false, eval e env) :: starEach es env := by
  cases e <;> first | rfl | cases h
theorem star_any {pos : Pos} {env : PySem.Env} : ∀ {es : List Expr}, es.all notStar = true → (backTo pos (starEach es env)).any (·.1) = false
  | [], _ => rfl
  | e :: es, h => by
    rw [List.all_cons, Bool.and_eq_true] at h
    rw [star_cons h.1]
    exact star_any h.2
def notSet : Expr → Bool
  | .Set _ _ _ => false
  | _ => true
theorem mark_no {op : CmpOp} {e : Expr} (h : notSet e = true) : behindInMarks op e = false := by cases e <;> first | rfl | cases h
theorem fold_no {e : Expr} {env : PySem.Env} (h : notSet e = true) : ∀ x, foldedSetIterable e env x = pure x := by
  intro x
  cases e <;> first | rfl | cases h
def plainIx : Expr → Bool
  | .Slice _ _ _ _ => false
  | _ => true
theorem plainIx_ok {e : Expr} (h : plainIx e = true) : PlainIx e := by
  intro o i
  cases e <;> first | rfl | cases h
/-- a receiver whose methods are asked as they stand -/
def plainRecv : Expr → Bool
  | .Name _ _ => true
  | .Subscript _ _ _ => true
  | .Constant _ _ _ => true
  | _ => false
theorem plainRecv_ok {o : Expr} {m : Str} {env : PySem.Env} (h : plainRecv o = true) : attributeBase o m env (eval o env) = eval o env := by cases o <;> first | rfl | cases h
/-- a method's, a field's name, told by a mark ahead -/
def dot (m : Str) : Str := ⟨(46 :: m.cps.toList).toArray⟩
def undotL : List Nat → Option Str
  | c :: r => if c = 46 then some ⟨r.toArray⟩ else none
  | [] => none
def undot (x : Str) : Option Str := undotL x.cps.toList
theorem undot_dot (m : Str) : undot (dot m) = some m := by
  show undotL (46 :: m.cps.toList).toArray.toList = some m
  rw [List.toList_toArray]
  show (if (46 : Nat) = 46 then some (⟨m.cps.toList.toArray⟩ : Str) else none) = some m
  rw [if_pos rfl, Array.toArray_toList]
/-- a name's method or field: the name, where it stands -/
def asAttr : Expr → Option (Str × Pos × Str × Pos)
  | .Attribute (.Name y p) z ap => some (y, p, z, ap)
  | _ => none
def bNames : List Str := ["len", "list", "tuple", "all", "any", "max", "min", "sorted", "int", "isinstance", "range", "enumerate", "zip", "bool", "ValueError", "set", "str", "dict"]
/-- the name of a built-in function -/
def biName : Bi → Option Str
  | .len => some "len"
  | .list => some "list"
  | .tuple => some "tuple"
  | .all => some "all"
  | .any => some "any"
  | .max1 => some "max"
  | .sorted => some "sorted"
  | .int1 => some "int"
  | .str1 => some "str"
  | _ => none
def nrm (op : BoolOp) (pos : Pos) : List Expr → Expr
  | [y] => y
  | r => .BoolOp op r pos
/-- a target -/
def mNames (N : List Str) (sc bs : Scope) (cell : Bool) : List Nat → List Expr → Bool
  | [], [] => true
  | i :: is, .Name y _ :: r => decide (N[i]? = some y) && (if cell then (match sc.names.lookup y with
      | some .local => true
      | some .cell => (match bs.names.lookup y with
        | some .cell => true
        | _ => false)
      | _ => false) else (match sc.names.lookup y with
      | some .local => true
      | _ => false)) && mNames N sc bs cell is r
  | _, _ => false
def mTg (N : List Str) (sc bs : Scope) (cell : Bool) : Tg → Expr → Bool
  | .name i, x => mNames N sc bs cell [i] [x]
  | .tup is, .Tuple l _ _ => mNames N sc bs cell is l
  | .pair a b, .Tuple [x, y] _ _ => mTg N sc bs cell a x && mTg N sc bs cell b y
  | _, _ => false
def isTup : Expr → Bool
  | .Tuple _ _ _ => true
  | _ => false
mutual
def mE (N : List Str) : Scope → E → Expr → Bool
  | sc, .var i, x => (match x with
    | .Name y _ => decide (N[i]? = some y) && (visB sc y && okN y)
    | _ => false)
  | sc, .int n, x => (match x with
    | .Constant (.int m) _ _ => decide (m = n)
    | _ => false)
  | sc, .bool b, x => (match x with
    | .Constant (.bool c) _ _ => decide (c = b)
    | _ => false)
  | sc, .non, x => (match x with
    | .Constant .none _ _ => true
    | _ => false)
  | sc, .str s, x => (match x with
    | .Constant (.str t) _ _ => decide (t = s)
    | _ => false)
  | sc, .glob z n, x => (match x with
    | .Name y _ => decide (y = z) && (decide (z ∉ ("ValueError" : Str) :: XN) && (decide (undot z = none) && (glB sc y && okN y)))
    | _ => false)
  | sc, .tup es, x => (match x with
    | .Tuple l _ _ => mEs N sc es l
    | _ => false)
  | sc, .lst es, x => (match x with
    | .List l _ => mEs N sc es l
    | _ => false)
  | sc, .dict k, x => (match x with
    | .Dict [] [] _ => true
    | _ => false)
  | sc, .bin op a b, x => (match x with
    | .BinOp y o z _ => decide (o = kop op) && (mE N sc a y && mE N sc b z)
    | _ => false)
  | sc, .neg a, x => (match x with
    | .UnaryOp .USub y _ => mE N sc a y
    | _ => false)
  | sc, .cmp op a b, x => (match x with
    | .Compare y [o] [z] _ => decide (o = kcm op) && (notSet z && (mE N sc a y && mE N sc b z))
    | _ => false)
  | sc, .chain o1 o2 a b c, x => (match x with
    | .Compare y [p, q] [z, t] _ => decide (p = kcm o1) && (decide (q = kcm o2) && (notSet t && (mE N sc a y && (mE N sc b z && mE N sc c t))))
    | _ => false)
  | sc, .and a b, x => (match x with
    | .BoolOp .And (y :: z :: r) pos => mE N sc a y && mE N sc b (nrm .And pos (z :: r))
    | _ => false)
  | sc, .or a b, x => (match x with
    | .BoolOp .Or (y :: z :: r) pos => mE N sc a y && mE N sc b (nrm .Or pos (z :: r))
    | _ => false)
  | sc, .not a, x => (match x with
    | .UnaryOp .Not y _ => mE N sc a y
    | _ => false)
  | sc, .ife c a b, x => (match x with
    | .IfExp y z t _ => (tst c && mE N sc c y) && (mE N sc a z && mE N sc b t)
    | _ => false)
  | sc, .idx a b, x => (match x with
    | .Subscript y z _ => plainIx z && (mE N sc a y && mE N sc b z)
    | _ => false)
  | sc, .slice a lo hi, x => (match x with
    | .Subscript y (.Slice l h none _) _ => mE N sc a y && (mO N sc lo l && mO N sc hi h)
    | _ => false)
  | sc, .rev a, x => (match x with
    | .Subscript y (.Slice none none (some (.UnaryOp .USub (.Constant (.int i) _ _) _)) _) _ => decide (i = 1) && mE N sc a y
    | _ => false)
  | sc, .comp elt tg src cond own, x => (match x with
    | .ListComp y [⟨t, it, ifs, k⟩] scope _ => decide (k = 0) && (blkC N sc scope (own.map fun i => (N.getD i "", i)) && (notSet it && (mTg N (relS scope sc) scope true tg t && (mSrc N sc src t it && (mC N (relS scope sc) cond ifs && mE N (relS scope sc) elt y)))))
    | _ => false)
  | sc, .call f _ es, x => (match x with
    | .Call (.Name y _) args [] _ => decide (y = f) && (decide (undot f = none) && (glB sc y && (okN y && mEs N sc es args)))
    | _ => false)
  | sc, .attr i f, x => (match x with
    | .Attribute (.Name y _) z _ => decide (z = f) && (decide (N[i]? = some y) && (visB sc y && okN y))
    | _ => false)
  | sc, .meth i m _ es, x => (match x with
    | .Call (.Attribute (.Name y _) z ap) args [] cp => decide (z = m) && (decide (N[i]? = some y) && (visB sc y && (okN y && ((ap.endLine == cp.line) && (decide (args.length < 30) && mEs N sc es args)))))
    | _ => false)
  | sc, .b1 f a, x => (match x with
    | .Call (.Name y _) [z] [] _ => (match f with
      | .sortedSet => decide (y = "sorted") && (glB sc y && (match z with
        | .Call (.Name t _) [u] [] _ => decide (t = "set") && (glB sc t && (notStar u && mE N sc a u))
        | _ => false))
      | .sortedSetN => decide (y = "sorted") && (glB sc y && (match z with
        | .Call (.Name t _) [u] [] _ => decide (t = "set") && (glB sc t && (notStar u && mE N sc a u))
        | _ => false))
      | .lenSet => decide (y = "len") && (glB sc y && (match z with
        | .Call (.Name t _) [u] [] _ => decide (t = "set") && (glB sc t && (notStar u && mE N sc a u))
        | _ => false))
      | _ => decide (biName f = some y) && (glB sc y && (notStar z && mE N sc a z)))
    | .Call (.Name y _) [z, .Tuple [.Name t _, .Name s _] _ _] [] _ => (match f with
      | .isinLT => decide (y = "isinstance") && (decide (t = Str.ofString "list") && (decide (s = Str.ofString "tuple") && (glB sc y && (glB sc t && (glB sc s && (notStar z && mE N sc a z))))))
      | _ => false)
    | .Call (.Name y _) [z, .Name t _] [] _ => (match f with
      | .isexc c => decide (y = "isinstance") && (decide (t = c) && (decide (c ∈ ("ValueError" : Str) :: XN) && (glB sc y && (glB sc t && (okN t && (notStar z && mE N sc a z))))))
      | .isinst ty => decide (y = "isinstance") && (decide (t = Str.ofString (tyName ty)) && (glB sc y && (glB sc t && (notStar z && mE N sc a z))))
      | _ => false)
    | _ => false)
  | sc, .b2 f a b, x => (match x with
    | .Call (.Name y _) [z, t] [] _ => (match f with
      | .max2 => decide (y = "max") && (glB sc y && (notStar z && (notStar t && (mE N sc a z && mE N sc b t))))
      | .min2 => decide (y = "min") && (glB sc y && (notStar z && (notStar t && (mE N sc a z && mE N sc b t))))
      | _ => false)
    | .Call (.Attribute z m ap) [t] [] cp => (match f with
      | .index => decide (m = "index") && (plainRecv z && ((ap.endLine == cp.line) && (notStar t && (mE N sc a z && mE N sc b t))))
      | .join => decide (m = "join") && (plainRecv z && ((ap.endLine == cp.line) && (notStar t && (mE N sc a z && mE N sc b t))))
      | .split => decide (m = "split") && (plainRecv z && ((ap.endLine == cp.line) && (notStar t && (mE N sc a z && mE N sc b t))))
      | .count => decide (m = "count") && (plainRecv z && ((ap.endLine == cp.line) && (notStar t && (mE N sc a z && mE N sc b t))))
      | _ => false)
    | _ => false)
  | sc, .b3 f a b c, x => (match x with
    | .Call (.Attribute z m ap) [t, u] [] cp => (match f with
      | .get => decide (m = "get") && (plainRecv z && ((ap.endLine == cp.line) && (notStar t && (notStar u && (mE N sc a z && (mE N sc b t && mE N sc c u))))))
      | _ => false)
    | _ => false)
  | sc, .rng src, x => (match x with
    | .Call (.Name y _) [z] [] _ => decide (y = "list") && (glB sc y && (notStar z && mRg N sc src z))
    | _ => false)
def mEs (N : List Str) : Scope → Es → List Expr → Bool
  | _, .nil, x => (match x with
    | [] => true
    | _ => false)
  | sc, .cons e es, x => (match x with
    | y :: r => notStar y && (mE N sc e y && mEs N sc es r)
    | _ => false)
def mO (N : List Str) : Scope → Eo → Option Expr → Bool
  | _, .no, x => (match x with
    | none => true
    | _ => false)
  | sc, .yes e, x => (match x with
    | some y => mE N sc e y
    | _ => false)
def mC (N : List Str) : Scope → Eo → List Expr → Bool
  | _, .no, x => (match x with
    | [] => true
    | _ => false)
  | sc, .yes e, x => (match x with
    | [y] => tst e && mE N sc e y
    | _ => false)
def mSrc (N : List Str) : Scope → Src → Expr → Expr → Bool
  | sc, .seq e, _, x => mE N sc e x
  | sc, .signs e, _, x => mE N sc e x
  | sc, .range1 a, _, x => (match x with
    | .Call (.Name y _) [z] [] _ => decide (y = "range") && (glB sc y && (notStar z && mE N sc a z))
    | _ => false)
  | sc, .range2 a b, _, x => (match x with
    | .Call (.Name y _) [z, t] [] _ => decide (y = "range") && (glB sc y && (notStar z && (notStar t && (mE N sc a z && mE N sc b t))))
    | _ => false)
  | sc, .enum a, tg, x => (match x with
    | .Call (.Name y _) [z] [] _ => decide (y = "enumerate") && (isTup tg && (glB sc y && (notStar z && mE N sc a z)))
    | _ => false)
  | sc, .zip a b, tg, x => (match x with
    | .Call (.Name y _) [z, t] [] _ => decide (y = "zip") && (isTup tg && (glB sc y && (notStar z && (notStar t && (mE N sc a z && mE N sc b t)))))
    | _ => false)
def mRg (N : List Str) : Scope → Src → Expr → Bool
  | sc, .range1 a, x => (match x with
    | .Call (.Name y _) [z] [] _ => decide (y = "range") && (glB sc y && (notStar z && mE N sc a z))
    | _ => false)
  | sc, .range2 a b, x => (match x with
    | .Call (.Name y _) [z, t] [] _ => decide (y = "range") && (glB sc y && (notStar z && (notStar t && (mE N sc a z && mE N sc b t))))
    | _ => false)
  | _, _, _ => false
end
abbrev CP := Str → (List Val → Res Val) → Prop
abbrev GP := Str → Int → Prop
/-- a class of errors that is named -/
def UB (G : GP) : Bi → Prop
  | .isexc c => G c 0
  | _ => True
mutual
def UE (C : CP) (G : GP) : E → Prop
  | .glob x n => G x n
  | .tup es => UEs C G es
  | .lst es => UEs C G es
  | .bin _ a b => UE C G a ∧ UE C G b
  | .neg a => UE C G a
  | .cmp _ a b => UE C G a ∧ UE C G b
  | .chain _ _ a b c => UE C G a ∧ UE C G b ∧ UE C G c
  | .and a b => UE C G a ∧ UE C G b
  | .or a b => UE C G a ∧ UE C G b
  | .not a => UE C G a
  | .ife c a b => UE C G c ∧ UE C G a ∧ UE C G b
  | .idx a b => UE C G a ∧ UE C G b
  | .slice a lo hi => UE C G a ∧ UO C G lo ∧ UO C G hi
  | .rev a => UE C G a
  | .comp elt _ src cond _ => USrc C G src ∧ UO C G cond ∧ UE C G elt
  | .call x F es => C x F ∧ UEs C G es
  | .attr _ f => G (dot f) 0
  | .meth _ m F es => C (dot m) F ∧ UEs C G es
  | .b1 f a => UB G f ∧ UE C G a
  | .b2 _ a b => UE C G a ∧ UE C G b
  | .b3 _ a b c => UE C G a ∧ UE C G b ∧ UE C G c
  | .rng src => USrc C G src
  | _ => True
def UEs (C : CP) (G : GP) : Es → Prop
  | .nil => True
  | .cons e es => UE C G e ∧ UEs C G es
def UO (C : CP) (G : GP) : Eo → Prop
  | .no => True
  | .yes e => UE C G e
def USrc (C : CP) (G : GP) : Src → Prop
  | .seq e => UE C G e
  | .signs e => UE C G e
  | .range1 a => UE C G a
  | .range2 a b => UE C G a ∧ UE C G b
  | .enum e => UE C G e
  | .zip a b => UE C G a ∧ UE C G b
end
/-- a def, a method of our class by its name -/
def Where (K : PySem.W.Frag) (mg : Str → Option Value) (x : Str) (f : Addr) : Prop := (undot x = none → mg x = some (.ref f) ∧ PySem.W.keepIn K (.ref f) = true) ∧ ∀ m, undot x = some m → Cls K (C0 K) ∧ Meth K (C0 K) m f
/-- a def by its name, its promise kept -/
def HasC (P : Program) (w : World) (K : PySem.W.Frag) (mg : Str → Option Value) (base : Heap) (A : Around) : CP := fun x F =>
  ∃ (k : Nat) (f : Addr) (fd : FuncData) (ps : List Str), FnOk P w K mg base (L2.CX P w) k f fd ps (PSp K mg F) ∧ Room k A ∧ Where K mg x f ∧ Binds K fd ps []
/-- a number by its name; or a class of errors -/
def HasG (K : PySem.W.Frag) (mg : Str → Option Value) : GP := fun x n => (x ∉ ("ValueError" : Str) :: XN → undot x = none → ∃ t, mg x = some (.int n t)) ∧ (x ∈ XN → XOk K mg ∧ ∃ C, mg x = some (.ref C)) ∧ ∀ f, undot x = some f → AttrOk K f
structure Gd (X : Cx) : Prop where
  calm : X.calm = true
  nd : X.N.Nodup
  hu : X.A.units + 65 < cLine
  bl : ∀ x ∈ bNames, X.mg x = none
end Lh
set_option Elab.async false
set_option linter.all false
set_option maxRecDepth 100000
set_option maxHeartbeats 8000000
namespace Lh
open PySem PySem.Spec PyProof.Rows L2
structure Rdg (X : Cx) (W : WX) (e : E) (x : Expr) : Prop where
  v : PE X x (rd X.K X.mg W e).1
  t : tst e = true → PT X x (rd X.K X.mg W e).2
  w : tst e = true → ∀ op l pos, x = .BoolOp op l pos → PW X x (rd X.K X.mg W e).2
section
variable {X : Cx} {W : WX}
theorem nrm_pe {op : BoolOp} {pos : Pos} {r : List Expr} {t : TE} (h : PE X (nrm op pos r) t) : PE X (.BoolOp op r pos) t := by
  match r, h with
  | [], h => exact h
  | [y], h => exact pe_one h
  | _ :: _ :: _, h => exact h
theorem nrm_pw {op : BoolOp} {pos : Pos} {r : List Expr} {t : TT} (ht : PT X (nrm op pos r) t) (hw : ∀ o l p, nrm op pos r = .BoolOp o l p → PW X (nrm op pos r) t) : PW X (.BoolOp op r pos) t := by
  match r, ht, hw with
  | [], ht, hw => exact hw _ _ _ rfl
  | [y], ht, hw =>
    cases op with
    | And => exact pw_and1 ht
    | Or => exact pw_or1 ht
  | _ :: _ :: _, ht, hw => exact hw _ _ _ rfl
theorem bl_of (g : Gd X) {x : Str} (h : x ∈ bNames) : X.mg x = none := g.bl x h
theorem mNames_ok {bs : Scope} {cell : Bool} (hn : X.N.Nodup) (hf : cell = true → ∀ y, bs.names.lookup y = some .cell → X.fn y = true) : ∀ {is : List Nat} {l : List Expr}, mNames X.N X.env.scope bs cell is l = true →
    PGs X l (gNames is) ∧ (assignEach l X.env).length = is.length ∧ (assignEach l X.env).findIdx? (·.1) = none
  | [], [], _ => ⟨pgs_nil, rfl, rfl⟩
  | [], _ :: _, h => nomatch h
  | _ :: _, [], h => nomatch h
  | i :: is, x :: r, h => by
    cases x with
    | Name y pos =>
      have h' : (decide (X.N[i]? = some y) && (if cell then (match X.env.scope.names.lookup y with
        | some .local => true
        | some .cell => (match bs.names.lookup y with
          | some .cell => true
          | _ => false)
        | _ => false) else (match X.env.scope.names.lookup y with
        | some .local => true
        | _ => false)) && mNames X.N X.env.scope bs cell is r) = true := h
      rw [Bool.and_eq_true, Bool.and_eq_true, decide_eq_true_eq] at h'
      obtain ⟨⟨h1, h2⟩, h3⟩ := h'
      obtain ⟨g1, g2, g3⟩ := mNames_ok hn hf h3
      have lc : Loc X.env.scope y ∧ (X.fn y = true ∨ X.env.scope.names.lookup y = some .local) := by
        cases cell with
        | true =>
          rw [if_pos rfl] at h2
          split at h2
          · exact ⟨.inl (by assumption), .inr (by assumption)⟩
          · split at h2
            · exact ⟨.inr (by assumption), .inl (hf rfl y (by assumption))⟩
            · cases h2
          · cases h2
        | false =>
          rw [if_neg Bool.false_ne_true] at h2
          split at h2
          · exact ⟨.inl (by assumption), .inr (by assumption)⟩
          · cases h2
      refine ⟨pgs_cons (pg_name hn h1 lc.1 lc.2) g1 rfl, congrArg (· + 1) g2, ?_⟩
      show List.findIdx? (·.1) ((false, assign (.Name y pos) X.env) :: assignEach r X.env) = none
      rw [List.findIdx?_cons]
      simp only [Bool.false_eq_true, if_false]
      rw [g3]
      rfl
    | _ => exact nomatch h
theorem mTg_shape {N : List Str} {sc bs : Scope} {cell : Bool} {tg : Tg} {x : Expr} (h : mTg N sc bs cell tg x = true) : (∃ y p, x = .Name y p) ∨ ∃ l k p, x = .Tuple l k p := by
  cases tg with
  | name i =>
    cases x with
    | Name y p => exact .inl ⟨y, p, rfl⟩
    | _ => exact nomatch (show mNames N sc bs cell [i] [_] = true from h)
  | tup is =>
    cases x with
    | Tuple l k p => exact .inr ⟨l, k, p, rfl⟩
    | _ => exact nomatch h
  | pair a b =>
    cases x with
    | Tuple l k p => exact .inr ⟨l, k, p, rfl⟩
    | _ => exact nomatch h
theorem pg_pair {x y : Expr} {k : Nat} {pos : Pos} {t u : TG} (hc : X.calm = true) (h1 : PG X x t) (h2 : PG X y u) (s1 : (∃ z p, x = .Name z p) ∨ ∃ l k p, x = .Tuple l k p) (s2 : (∃ z p, y = .Name z p) ∨ ∃ l k p, y = .Tuple l k p) : PG X (.Tuple [x, y] k pos) (gTup X.K 2 (gCons t (gCons u gNil))) := by
  rcases s1 with ⟨z, p, rfl⟩ | ⟨l, k1, p, rfl⟩ <;> rcases s2 with ⟨z2, p2, rfl⟩ | ⟨l2, k2, p2, rfl⟩ <;> exact pg_tup hc (pgs_cons h1 (pgs_cons h2 pgs_nil rfl) rfl) rfl rfl
theorem mTg_ok {bs : Scope} {cell : Bool} (hc : X.calm = true) (hn : X.N.Nodup) (hf : cell = true → ∀ y, bs.names.lookup y = some .cell → X.fn y = true) {tg : Tg} {x : Expr} (h : mTg X.N X.env.scope bs cell tg x = true) : PG X x (rdTg X.K tg) := by
  induction tg generalizing x with
  | name i =>
    obtain ⟨g1, _, _⟩ := mNames_ok hn hf (show mNames X.N X.env.scope bs cell [i] [x] = true from h)
    refine ⟨fun pins s σ H v u Q I r q => ?_⟩
    cases x with
    | Name y pos =>
      have h' : (decide (X.N[i]? = some y) && _ && _) = true := h
      rw [Bool.and_eq_true, Bool.and_eq_true, decide_eq_true_eq] at h'
      have lc : Loc X.env.scope y ∧ (X.fn y = true ∨ X.env.scope.names.lookup y = some .local) := by
        have h2 := h'.1.2
        cases cell with
        | true =>
          rw [if_pos rfl] at h2
          split at h2
          · exact ⟨.inl (by assumption), .inr (by assumption)⟩
          · split at h2
            · exact ⟨.inr (by assumption), .inl (hf rfl y (by assumption))⟩
            · cases h2
          · cases h2
        | false =>
          rw [if_neg Bool.false_ne_true] at h2
          split at h2
          · exact ⟨.inl (by assumption), .inr (by assumption)⟩
          · cases h2
      exact (pg_name hn h'.1.1 lc.1 lc.2).run pins s σ H v u Q I r q
    | _ => exact nomatch h
  | tup is =>
    cases x with
    | Tuple l k pos =>
      obtain ⟨g1, g2, g3⟩ := mNames_ok hn hf (show mNames X.N X.env.scope bs cell is l = true from h)
      exact pg_tup hc g1 g2 g3
    | _ => exact nomatch h
  | pair a b ha hb =>
    cases x with
    | Tuple l k pos =>
      match l, h with
      | [u, v], h =>
        have h' : (mTg X.N X.env.scope bs cell a u && mTg X.N X.env.scope bs cell b v) = true := h
        rw [Bool.and_eq_true] at h'
        exact pg_pair hc (ha h'.1) (hb h'.2) (mTg_shape h'.1) (mTg_shape h'.2)
    | _ => exact nomatch h
end
theorem rdg_val {X : Cx} {W : WX} {e : E} {x : Expr} {t : TE} (h1 : (rd X.K X.mg W e) = (t, tB t)) (h : PE X x t) (he : ∀ whole, isTrue x X.env whole = (do let v ← whole; standAt x.pos; holding [v] (truthy v))) (hb : ∀ op l pos, x ≠ .BoolOp op l pos) : Rdg X W e x :=
  ⟨by rw [h1]; exact h, fun _ => by rw [h1]; exact pt_val h he, fun _ op l pos q => absurd q (hb op l pos)⟩
theorem ba {a b : Bool} (h : (a && b) = true) : a = true ∧ b = true := by rwa [Bool.and_eq_true] at h
theorem bd {p : Prop} [Decidable p] {b : Bool} (h : (decide p && b) = true) : p ∧ b = true := by rwa [Bool.and_eq_true, decide_eq_true_eq] at h
theorem bi_call {X : Cx} (g : Gd X) {f : Bi} {y : Str} (h : biName f = some y) (hg : glB X.env.scope y = true) {z : Expr} {t : TE} {p pos : Pos} (hz : notStar z = true) (hp : PE X z t) : PE X (.Call (.Name y p) [z] [] pos) (rdB1 X.K X.mg f t) := by
  have gl := glB_ok hg
  have pa : PA X [z] (tCons t tNil) := pa_cons hp pa_nil (star_cons hz)
  have s1 := star_cons (es := []) (env := X.env) hz
  cases f <;> first | (cases h; done) | skip
  · cases h
    exact pe_callB (CallR.or call_len_seq call_len_str) gl (bl_of g (by decide)) (by decide +kernel) pa (by decide) (by decide) s1 rfl
  · cases h
    exact pe_callTy (CallR.or call_list_of (CallR.or (call_list_dK g.calm) (call_list_dT g.calm))) gl (bl_of g (by decide)) (by decide +kernel) pa (by decide) (by decide) s1 rfl
  · cases h
    exact pe_callTy call_tuple_of gl (bl_of g (by decide)) (by decide +kernel) pa (by decide) (by decide) s1 rfl
  · cases h
    exact pe_callB (cr_all g.calm) gl (bl_of g (by decide)) (by decide +kernel) pa (by decide) (by decide) s1 rfl
  · cases h
    exact pe_callB (cr_any g.calm) gl (bl_of g (by decide)) (by decide +kernel) pa (by decide) (by decide) s1 rfl
  · cases h
    exact pe_callB (cr_max g.calm) gl (bl_of g (by decide)) (by decide +kernel) pa (by decide) (by decide) s1 rfl
  · cases h
    exact pe_callB (CallR.or cr_sortedI cr_sortedPO) gl (bl_of g (by decide)) (by decide +kernel) pa (by decide) (by decide) s1 rfl
  · cases h
    exact pe_callTy (CallR.or call_int1 call_int_str) gl (bl_of g (by decide)) (by decide +kernel) pa (by decide) (by decide) s1 rfl
  · cases h
    exact pe_callTy (CallR.or call_str_int SkE.call_str_str) gl (bl_of g (by decide)) (by decide +kernel) pa (by decide) (by decide) s1 rfl
theorem ty_glob {X : Cx} (g : Gd X) (ty : Ty) {p : Pos} (hg : glB X.env.scope (Str.ofString (tyName ty)) = true) : PE X (.Name (Str.ofString (tyName ty)) p) (tC (.ty (tyName ty))) := by
  have gl := glB_ok hg
  cases ty
  · exact pe_bltn gl (bl_of g (by decide)) (u := .type "int") (by decide +kernel) rfl (by decide) (by decide)
  · exact pe_bltn gl (bl_of g (by decide)) (u := .type "bool") (by decide +kernel) rfl (by decide) (by decide)
  · exact pe_bltn gl (bl_of g (by decide)) (u := .type "tuple") (by decide +kernel) rfl (by decide) (by decide)
  · exact pe_bltn gl (bl_of g (by decide)) (u := .type "list") (by decide +kernel) rfl (by decide) (by decide)
  · exact pe_bltn gl (bl_of g (by decide)) (u := .type "dict") (by decide +kernel) rfl (by decide) (by decide)
theorem pe_callS0 {X : Cx} {CX : CXT} {k : Nat} {f : Addr} {fd : FuncData} {ps : List Str} {sp : Sp} {E : L2.St → XK} {x : Str} {p pos : Pos} (F : FnOk X.prog X.w X.K X.mg X.base CX k f fd ps sp) (hr : Room k X.A) (hg : Gl X x) (hm : X.mg x = some (.ref f)) (hk : PySem.W.keepIn X.K (.ref f) = true) (hb : Binds X.K fd ps []) (hx : ∀ σ, PassesAt CX X σ (E σ))
    (hdb : (x == ("__debug__" : Str)) = false) : PE X (.Call (.Name x p) [] [] pos) (tCallS sp E tNil) := by
  refine ⟨fun pins s σ H Q I h => ?_⟩
  refine wpAny_Call_Name_kw (ld_glob I hg hm ?_ hdb)
  exact PySem.W.callWith_K0 I.kIn hk (run_fnS (us := []) F hr hb (hx σ) I .nil h)
theorem form_ok {pos : Pos} {env : PySem.Env} : ∀ {es : List Expr} {n : Nat}, es.all notStar = true → n < 30 → methodCallForm n (backTo pos (starEach es env)) [] = true := by
  intro es n h hn
  unfold methodCallForm
  have e1 : (backTo pos (starEach es env)).all (fun x => !x.1) = true := by
    have := star_any (pos := pos) (env := env) h
    rw [List.all_eq_true]
    intro x hx
    rw [List.any_eq_false] at this
    have := this x hx
    simpa using this
  simp [e1, hn]
theorem ev_meth {y m : Str} {p pos apos : Pos} {es : List Expr} {env : PySem.Env} (h : es.all notStar = true) (hn : es.length < 30) (hl : (apos.endLine == pos.line) = true) :
    eval (.Call (.Attribute (.Name y p) m apos) es [] pos) env = (do
      let ov ← eval (.Name y p) env
      standAt apos.atName
      let (f, first) ← holding [ov] (getMethod ov m (do return (← importBound (.Name y p) env).getD true))
      callWith pos f first (backTo pos (starEach es env)) (backToKw pos (keywordEach [] env))) := by
  have hf : methodCallForm (es.length + ([] : List Keyword).length) (backTo pos (starEach es env)) (backToKw pos (keywordEach [] env)) = true := form_ok (n := es.length) h hn
  rw [arm_eval_Call]
  show (do
    let ov ← eval (.Name y p) env
    standAt apos.atName
    methodCall (.Name y p) m apos pos env ov (es.length + ([] : List Keyword).length) (backTo pos (starEach es env)) (backToKw pos (keywordEach [] env))) = _
  unfold methodCall calleeOf methodCallPos
  simp only [hf, hl, Bool.not_true, Bool.false_or, if_true]
  rfl
section
variable {X : Cx} {CX : CXT} {k : Nat} {f C : Addr} {fd : FuncData} {ps : List Str} {sp : Sp} {E : L2.St → XK} {x y m : Str} {p pos apos : Pos} {e : Expr} {es : List Expr} {ta : TE} {t : TA}
theorem pe_methZ (he : PE X (.Name y p) ta) (c : Cls X.K C) (hm : Meth X.K C m f) (F : FnOk X.prog X.w X.K X.mg X.base CX k f fd ps sp) (hr : Room k X.A) (hb : Binds X.K fd ps []) (hx : ∀ σ, PassesAt CX X σ (E σ)) (ha : PA X (e :: es) t)
    (hs : (e :: es).all notStar = true) (hn : (e :: es).length < 30) (hl : (apos.endLine == pos.line) = true) :
    PE X (.Call (.Attribute (.Name y p) m apos) (e :: es) [] pos) (L2H.tMethH C m sp E ta t) := by
  refine ⟨fun pins s σ H Q I h => ?_⟩
  refine PySem.W.methodCall_KW (thn (he.run pins s σ H _ I h) fun u s1 ⟨x, H1, I1, rx, a, dx, fs, ex, ea, l, q⟩ => ?_) (ev_meth hs hn hl)
  subst ex
  obtain rfl : u = Value.ref a := rx
  refine getmeth_ok I1 ea c hm l ?_
  have hs' := hs
  rw [List.all_cons, Bool.and_eq_true] at hs'
  refine PySem.W.callWith_K (first := [.ref a]) (h₀ := X.base) I.ok.mod.kin hm.kp (thn (ha.run pos pins s1 σ H1 _ I1 q) fun us s2 ⟨vs, H2, I2, r, q2⟩ => ⟨I2.kIn, ?_⟩) (star_cons hs'.1) (star_any hs'.2)
  exact run_fnS (us := .ref a :: us) (vs := .ref a :: vs) F hr hb (hx σ) I2 (.cons rfl r) q2
theorem pe_methZ0 (he : PE X (.Name y p) ta) (c : Cls X.K C) (hm : Meth X.K C m f) (F : FnOk X.prog X.w X.K X.mg X.base CX k f fd ps sp) (hr : Room k X.A) (hb : Binds X.K fd ps []) (hx : ∀ σ, PassesAt CX X σ (E σ)) (hl : (apos.endLine == pos.line) = true) :
    PE X (.Call (.Attribute (.Name y p) m apos) [] [] pos) (L2H.tMethH C m sp E ta tNil) := by
  refine ⟨fun pins s σ H Q I h => ?_⟩
  refine PySem.W.methodCall_KW (thn (he.run pins s σ H _ I h) fun u s1 ⟨x, H1, I1, rx, a, dx, fs, ex, ea, l, q⟩ => ?_) (ev_meth rfl (by decide) hl)
  subst ex
  obtain rfl : u = Value.ref a := rx
  refine getmeth_ok I1 ea c hm l ?_
  refine PySem.W.callWith_K0 (first := [.ref a]) I1.kIn hm.kp ?_
  exact run_fnS (us := [.ref a]) (vs := [.ref a]) F hr hb (hx σ) I1 (.cons rfl .nil) q
theorem pe_fldA {fl : Str} (he : PE X (.Name y p) ta) (ok : AttrOk X.K fl) : PE X (.Attribute (.Name y p) fl pos) (tFldA X.K fl ta) :=
  ⟨fun pins s σ H Q I h => (pe_fld he rfl).run pins s σ H Q I (h ok)⟩
end
theorem pe_isx {X : Cx} (g : Gd X) {c : Str} {z : Expr} {t : TE} {p p2 pos : Pos} (hg : glB X.env.scope "isinstance" = true) (hc : glB X.env.scope c = true) (ho : okN c = true) (hx : c ∈ ("ValueError" : Str) :: XN) (u : HasG X.K X.mg c 0) (hz : notStar z = true) (hp : PE X z t) :
    PE X (.Call (.Name "isinstance" p) [z, .Name c p2] [] pos) (tIsX X.K X.mg c t) := by
  refine ⟨fun pins s σ H Q I h => ?_⟩
  by_cases e : c = "ValueError"
  · subst e
    exact (pe_callB call_isx (glB_ok hg) (bl_of g (by decide)) (by decide +kernel) (pa_cons hp (pa_cons (pe_bltn (v := .ty "ValueError") (u := .type "ValueError") (glB_ok hc) (bl_of g (by decide)) (by decide +kernel) rfl (by decide) (by decide)) pa_nil rfl) (star_cons hz)) (by decide) (by decide) (star_cons hz) rfl).run pins s σ H Q I (h.1 rfl)
  · have hall : ∀ C, XOk X.K X.mg → c ∈ XN → X.mg c = some (.ref C) → wpAny (model X.prog X.w) X.A (eval (.Call (.Name "isinstance" p) [z, .Name c p2] [] pos) X.env) (EP X pins σ Q) X.xe s := fun C ok hm hC =>
      (pe_callB call_isx (glB_ok hg) (bl_of g (by decide)) (by decide +kernel) (pa_cons hp (pa_cons (pe_glob (v := .ref C) (glB_ok hc) hC rfl (okN1 ho)) pa_nil rfl) (star_cons hz)) (by decide) (by decide) (star_cons hz) rfl).run pins s σ H Q I (h.2 e C ok hm hC)
    obtain ⟨ok, C, hC⟩ := u.2.1 ((List.mem_cons.mp hx).resolve_left e)
    exact hall C ok ((List.mem_cons.mp hx).resolve_left e) hC
theorem hu1 {X : Cx} (g : Gd X) : X.A.units + 1 < cLine := Nat.lt_of_le_of_lt (Nat.add_le_add_left (by decide) _) g.hu
abbrev CC (X : Cx) : CP := HasC X.prog X.w X.K X.mg X.base X.A
abbrev GG (X : Cx) : GP := HasG X.K X.mg
theorem stars : ∀ (es : Es) (N : List Str) (sc : Scope) (l : List Expr), mEs N sc es l = true → l.all notStar = true
  | .nil, N, sc, l, h => by
    cases l with
    | nil => rfl
    | cons _ _ => exact nomatch h
  | .cons e es, N, sc, l, h => by
    cases l with
    | nil => exact nomatch h
    | cons y r =>
      obtain ⟨h1, h⟩ := ba h
      obtain ⟨h2, h3⟩ := ba h
      rw [List.all_cons, h1, stars es N sc r h3]
      rfl
end Lh
set_option Elab.async false
set_option linter.all false
set_option maxRecDepth 100000
set_option maxHeartbeats 8000000
namespace Lh
open PySem PySem.Spec PyProof.Rows L2
mutual
theorem mat : ∀ (e : E) (X : Cx) (W : WX) (x : Expr), Gd X → Takes X W → UE (CC X) (GG X) e → mE X.N X.env.scope e x = true → Rdg X W e x
  | .var i, X, W, x, g, tk, u, h => by
    cases x with
    | Name y pos =>
      obtain ⟨h1, h2⟩ := bd h
      obtain ⟨h2, h3⟩ := ba h2
      exact rdg_val rfl (pe_var h1 (visB_ok h2) (okN1 h3) (okN2 h3)) (fun _ => rfl) fun _ _ _ q => nomatch q
    | _ => exact nomatch h
  | .int n, X, W, x, g, tk, u, h => by
    cases x with
    | Constant c j pos =>
      cases c with
      | int m =>
        have e : m = n := of_decide_eq_true h
        subst e
        exact rdg_val rfl pe_int (fun _ => rfl) fun _ _ _ q => nomatch q
      | _ => exact nomatch h
    | _ => exact nomatch h
  | .bool b, X, W, x, g, tk, u, h => by
    cases x with
    | Constant c j pos =>
      cases c with
      | bool m =>
        have e : m = b := of_decide_eq_true h
        subst e
        exact rdg_val rfl pe_bl (fun _ => rfl) fun _ _ _ q => nomatch q
      | _ => exact nomatch h
    | _ => exact nomatch h
  | .non, X, W, x, g, tk, u, h => by
    cases x with
    | Constant c j pos =>
      cases c with
      | none => exact rdg_val rfl pe_non (fun _ => rfl) fun _ _ _ q => nomatch q
      | _ => exact nomatch h
    | _ => exact nomatch h
  | .str s, X, W, x, g, tk, u, h => by
    cases x with
    | Constant c j pos =>
      cases c with
      | str m =>
        have e : m = s := of_decide_eq_true h
        subst e
        exact rdg_val rfl pe_str (fun _ => rfl) fun _ _ _ q => nomatch q
      | _ => exact nomatch h
    | _ => exact nomatch h
  | .glob z n, X, W, x, g, tk, u, h => by
    cases x with
    | Name y pos =>
      obtain ⟨h1, h4⟩ := bd h
      obtain ⟨h0, h5⟩ := bd h4
      obtain ⟨h9, h5⟩ := bd h5
      obtain ⟨h2, h3⟩ := ba h5
      subst h1
      obtain ⟨t, ht⟩ := (show HasG X.K X.mg y n from u).1 h0 h9
      exact rdg_val rfl (pe_glob (glB_ok h2) ht ⟨t, rfl⟩ (okN1 h3)) (fun _ => rfl) fun _ _ _ q => nomatch q
    | _ => exact nomatch h
  | .tup es, X, W, x, g, tk, u, h => by
    cases x with
    | Tuple l k pos => exact rdg_val rfl (pe_tup (mats es X W l g tk u h)) (fun _ => rfl) fun _ _ _ q => nomatch q
    | _ => exact nomatch h
  | .lst es, X, W, x, g, tk, u, h => by
    cases x with
    | List l pos => exact rdg_val rfl (pe_lst (mats es X W l g tk u h)) (fun _ => rfl) fun _ _ _ q => nomatch q
    | _ => exact nomatch h
  | .dict k, X, W, x, g, tk, u, h => by
    cases x with
    | Dict ks vs pos =>
      cases ks with
      | nil =>
        cases vs with
        | nil =>
          cases k with
          | true => exact rdg_val (t := tDNewK) rfl pe_dnewK (fun _ => rfl) fun _ _ _ q => nomatch q
          | false => exact rdg_val (t := tDNewT) rfl pe_dnewT (fun _ => rfl) fun _ _ _ q => nomatch q
        | cons _ _ => exact nomatch h
      | cons _ _ => exact nomatch h
    | _ => exact nomatch h
  | .bin op a b, X, W, x, g, tk, u, h => by
    cases x with
    | BinOp y o z pos =>
      obtain ⟨h1, h2⟩ := bd h
      obtain ⟨h2, h3⟩ := ba h2
      subst h1
      exact rdg_val rfl (pe_op (opr_bin op) (mat a X W y g tk u.1 h2).v (mat b X W z g tk u.2 h3).v) (fun _ => rfl) fun _ _ _ q => nomatch q
    | _ => exact nomatch h
  | .neg a, X, W, x, g, tk, u, h => by
    cases x with
    | UnaryOp o y pos =>
      cases o with
      | USub => exact rdg_val rfl (pe_un un_neg (mat a X W y g tk u h).v) (fun _ => rfl) fun _ _ _ q => nomatch q
      | _ => exact nomatch h
    | _ => exact nomatch h
  | .cmp op a b, X, W, x, g, tk, u, h => by
    cases x with
    | Compare y os cs pos =>
      match os, cs, h with
      | [o], [z], h =>
        obtain ⟨h1, h2⟩ := bd h
        obtain ⟨h0, h2⟩ := ba h2
        obtain ⟨h2, h3⟩ := ba h2
        subst h1
        have p1 := (mat a X W y g tk u.1 h2).v
        have p2 := (mat b X W z g tk u.2 h3).v
        exact ⟨pe_cmpR (opr_cmp g.hu op) p1 p2 (mark_no h0), fun _ => pt_cmpR (opr_cmp g.hu op) p1 p2 (mark_no h0), fun _ _ _ _ q => nomatch q⟩
    | _ => exact nomatch h
  | .chain o1 o2 a b c, X, W, x, g, tk, u, h => by
    cases x with
    | Compare y os cs pos =>
      match os, cs, h with
      | [p, q], [z, t], h =>
        obtain ⟨h1, g2⟩ := bd h
        obtain ⟨h1', g3⟩ := bd g2
        obtain ⟨h0, g4⟩ := ba g3
        obtain ⟨h2, g5⟩ := ba g4
        obtain ⟨h3, h4⟩ := ba g5
        subst h1
        subst h1'
        have p1 := (mat a X W y g tk u.1 h2).v
        have p2 := (mat b X W z g tk u.2.1 h3).v
        have p3 := (mat c X W t g tk u.2.2 h4).v
        have hm : lastMarks [kcm o1, kcm o2] [z, t] = false := mark_no h0
        exact ⟨pe_chain (opr_cmp g.hu o1) (opr_cmp g.hu o2) p1 p2 p3 hm, fun _ => pt_chain (opr_cmp g.hu o1) (opr_cmp g.hu o2) p1 p2 p3 hm, fun _ _ _ _ q => nomatch q⟩
    | _ => exact nomatch h
  | .and a b, X, W, x, g, tk, u, h => by
    cases x with
    | BoolOp o l pos =>
      match o, l, h with
      | .And, y :: z :: r, h =>
        obtain ⟨h1, h2⟩ := ba h
        have p1 := mat a X W y g tk u.1 h1
        have p2 := mat b X W _ g tk u.2 h2
        have w : tst (.and a b) = true → PW X (.BoolOp .And (y :: z :: r) pos) (tAnd (rd X.K X.mg W a).2 (rd X.K X.mg W b).2) := fun t => by
          obtain ⟨t1, t2⟩ := ba t
          exact pw_and (p1.t t1) (nrm_pw (p2.t t2) (p2.w t2))
        exact ⟨pe_and p1.v (nrm_pe p2.v), fun t => (w t).pt, fun t _ _ _ _ => w t⟩
    | _ => exact nomatch h
  | .or a b, X, W, x, g, tk, u, h => by
    cases x with
    | BoolOp o l pos =>
      match o, l, h with
      | .Or, y :: z :: r, h =>
        obtain ⟨h1, h2⟩ := ba h
        have p1 := mat a X W y g tk u.1 h1
        have p2 := mat b X W _ g tk u.2 h2
        have w : tst (.or a b) = true → PW X (.BoolOp .Or (y :: z :: r) pos) (tOr (rd X.K X.mg W a).2 (rd X.K X.mg W b).2) := fun t => by
          obtain ⟨t1, t2⟩ := ba t
          exact pw_or (p1.t t1) (nrm_pw (p2.t t2) (p2.w t2))
        exact ⟨pe_or p1.v (nrm_pe p2.v), fun t => (w t).pt, fun t _ _ _ _ => w t⟩
    | _ => exact nomatch h
  | .not a, X, W, x, g, tk, u, h => by
    cases x with
    | UnaryOp o y pos =>
      cases o with
      | Not =>
        have p1 := mat a X W y g tk u h
        exact ⟨pe_not p1.v, fun t => pt_not (p1.t t), fun _ _ _ _ q => nomatch q⟩
      | _ => exact nomatch h
    | _ => exact nomatch h
  | .ife c a b, X, W, x, g, tk, u, h => by
    cases x with
    | IfExp y z t pos =>
      obtain ⟨h1, h2⟩ := ba h
      obtain ⟨h1', h1⟩ := ba h1
      obtain ⟨h2, h3⟩ := ba h2
      exact ⟨pe_ifExp ((mat c X W y g tk u.1 h1).t h1') (mat a X W z g tk u.2.1 h2).v (mat b X W t g tk u.2.2 h3).v, fun t => (nomatch t), fun t => nomatch t⟩
    | _ => exact nomatch h
  | .idx a b, X, W, x, g, tk, u, h => by
    cases x with
    | Subscript y z pos =>
      obtain ⟨h1, h2⟩ := ba h
      obtain ⟨h2, h3⟩ := ba h2
      exact rdg_val rfl (pe_ix (ixr_idx (hu1 g)) (mat a X W y g tk u.1 h2).v (mat b X W z g tk u.2 h3).v (plainIx_ok h1)) (fun _ => rfl) fun _ _ _ q => nomatch q
    | _ => exact nomatch h
  | .slice a lo hi, X, W, x, g, tk, u, h => by
    cases x with
    | Subscript y z pos =>
      match z, h with
      | .Slice l hh none p2, h =>
        obtain ⟨h1, h2⟩ := ba h
        obtain ⟨h2, h3⟩ := ba h2
        exact rdg_val rfl (pe_slice slr_sl (mat a X W y g tk u.1 h1).v (mato lo X W l g tk u.2.1 h2) (mato hi X W hh g tk u.2.2 h3)) (fun _ => rfl) fun _ _ _ q => nomatch q
    | _ => exact nomatch h
  | .rev a, X, W, x, g, tk, u, h => by
    cases x with
    | Subscript y z pos =>
      match z, h with
      | .Slice none none (some (.UnaryOp .USub (.Constant (.int i) _ _) _)) _, h =>
        obtain ⟨h1, h2⟩ := bd h
        subst h1
        exact rdg_val rfl (pe_revA (mat a X W y g tk u h2).v) (fun _ => rfl) fun _ _ _ q => nomatch q
    | _ => exact nomatch h
  | .comp elt tg src cond own, X, W, x, g, tk, u, h => by
    cases x with
    | ListComp y gs scope pos =>
      match gs, h with
      | [⟨t, it, ifs, k⟩], h =>
        obtain ⟨h1, h⟩ := bd h
        obtain ⟨h2, h⟩ := ba h
        obtain ⟨h3, h⟩ := ba h
        obtain ⟨h4, h⟩ := ba h
        obtain ⟨h5, h⟩ := ba h
        obtain ⟨h6, h7⟩ := ba h
        subst h1
        have gb : ∀ (s : Shared) (H : Hp) (C : Addr) (cl : List (Str × Addr)) (fp : List Addr), Gd (X.blk s H scope (compEnvC scope cl C X.env) fp) := fun s H C cl fp => ⟨g.calm, g.nd, g.hu, g.bl⟩
        have p := pe_lc (te := (rd X.K X.mg W0 elt).1) (tt := rdC X.K X.mg cond) (g := rdTg X.K tg) (pos := pos) (own := own.map fun i => (X.N.getD i "", i)) g.calm g.nd (matsrc src X W t it g tk u.1 h5) (blkOk_by h2)
          (fun s H C cl fp => mTg_ok (X := X.blk s H scope (compEnvC scope cl C X.env) fp) (bs := scope) (cell := true) g.calm g.nd (fun _ y hy => by
            show (scope.names.lookup y == some NameKind.cell) = true
            rw [hy]
            rfl) h4)
          (fun s H C cl fp => matc cond (X.blk s H scope (compEnvC scope cl C X.env) fp) ifs (gb s H C cl fp) u.2.1 h6)
          (fun s H C cl fp => (mat elt (X.blk s H scope (compEnvC scope cl C X.env) fp) W0 y (gb s H C cl fp) takes0 u.2.2 h7).v) (fold_no h3)
        have eo : (own.map fun i => (X.N.getD i "", i)).map (·.2) = own := by
          rw [List.map_map]
          exact List.map_id' _
        rw [eo] at p
        exact rdg_val rfl p (fun _ => rfl) fun _ _ _ q => nomatch q
    | _ => exact nomatch h
  | .call f F es, X, W, x, g, tk, u, h => by
    cases x with
    | Call fn args kws pos =>
      match fn, args, kws, h with
      | .Name y p, args, [], h =>
        obtain ⟨h1, h⟩ := bd h
        obtain ⟨h0, h⟩ := bd h
        obtain ⟨h2, h⟩ := ba h
        obtain ⟨h3, h4⟩ := ba h
        subst h1
        obtain ⟨k, fa, fd, ps, FO, hr, wh, hb⟩ := (show CC X y F from u.1)
        obtain ⟨hm, hk⟩ := wh.1 h0
        cases args with
        | nil =>
          have e0 : es = .nil := by
            cases es with
            | nil => rfl
            | cons _ _ => exact nomatch h4
          subst e0
          exact rdg_val rfl (pe_callS0 FO hr (glB_ok h2) hm hk hb (fun σ => passAt tk σ) (okN1 h3)) (fun _ => rfl) fun _ _ _ q => nomatch q
        | cons a args =>
          have st : (a :: args).all notStar = true := stars es X.N X.env.scope _ h4
          rw [List.all_cons, Bool.and_eq_true] at st
          exact rdg_val rfl (pe_callS FO hr (glB_ok h2) hm hk hb (fun σ => passAt tk σ) (mats es X W (a :: args) g tk u.2 h4) (okN1 h3) (star_cons st.1) (star_any st.2)) (fun _ => rfl) fun _ _ _ q => nomatch q
    | _ => exact nomatch h
  | .attr i f, X, W, x, g, tk, u, h => by
    cases x with
    | Attribute v z pos =>
      cases v with
      | Name y p =>
        obtain ⟨h1, h⟩ := bd h
        obtain ⟨h2, h⟩ := bd h
        obtain ⟨h3, h4⟩ := ba h
        subst h1
        exact rdg_val rfl (pe_fldA (pe_var h2 (visB_ok h3) (okN1 h4) (okN2 h4)) ((show HasG X.K X.mg (dot z) 0 from u).2.2 z (undot_dot z))) (fun _ => rfl) fun _ _ _ q => nomatch q
      | _ => exact nomatch h
    | _ => exact nomatch h
  | .meth i m F es, X, W, x, g, tk, u, h => by
    cases x with
    | Call fn args kws pos =>
      match fn, args, kws, h with
      | .Attribute (.Name y p) z ap, args, [], h =>
        obtain ⟨h1, h⟩ := bd h
        obtain ⟨h2, h⟩ := bd h
        obtain ⟨h3, h⟩ := ba h
        obtain ⟨h4, h⟩ := ba h
        obtain ⟨h5, h⟩ := ba h
        obtain ⟨h30, h6⟩ := bd h
        subst h1
        obtain ⟨k, fa, fd, ps, FO, hr, wh, hb⟩ := (show CC X (dot z) F from u.1)
        obtain ⟨hc, hm⟩ := wh.2 z (undot_dot z)
        have pv := pe_var (pos := p) h2 (visB_ok h3) (okN1 h4) (okN2 h4)
        cases args with
        | nil =>
          have e0 : es = .nil := by
            cases es with
            | nil => rfl
            | cons _ _ => exact nomatch h6
          subst e0
          exact rdg_val rfl (pe_methZ0 pv hc hm FO hr hb (fun σ => passAt tk σ) h5) (fun _ => rfl) fun _ _ _ q => nomatch q
        | cons a args =>
          have st : (a :: args).all notStar = true := stars es X.N X.env.scope _ h6
          exact rdg_val rfl (pe_methZ pv hc hm FO hr hb (fun σ => passAt tk σ) (mats es X W (a :: args) g tk u.2 h6) st h30 h5) (fun _ => rfl) fun _ _ _ q => nomatch q
    | _ => exact nomatch h
  | .b1 f a, X, W, x, g, tk, u, h => by
    cases x with
    | Call fn args kws pos =>
      match fn, args, kws, h with
      | .Name y p, [z], [], h =>
        by_cases q0 : f = .sortedSet
        · subst q0
          obtain ⟨h1, h⟩ := bd h
          obtain ⟨h2, h⟩ := ba h
          match z, h with
          | .Call (.Name t p2) [v] [] p3, h =>
            obtain ⟨h3, h⟩ := bd h
            obtain ⟨h4, h⟩ := ba h
            obtain ⟨h5, h6⟩ := ba h
            subst h1
            subst h3
            exact rdg_val rfl (pe_sortedSet g.calm (Nat.lt_of_succ_lt g.hu) (glB_ok h2) (bl_of g (by decide)) (glB_ok h4) (bl_of g (by decide)) (mat a X W v g tk u.2 h6).v (star_cons h5)) (fun _ => rfl) fun _ _ _ q => nomatch q
        by_cases q9 : f = .sortedSetN
        · subst q9
          obtain ⟨h1, h⟩ := bd h
          obtain ⟨h2, h⟩ := ba h
          match z, h with
          | .Call (.Name t p2) [v] [] p3, h =>
            obtain ⟨h3, h⟩ := bd h
            obtain ⟨h4, h⟩ := ba h
            obtain ⟨h5, h6⟩ := ba h
            subst h1
            subst h3
            exact rdg_val rfl (pe_sortedSetN g.calm (Nat.lt_of_succ_lt g.hu) (glB_ok h2) (bl_of g (by decide)) (glB_ok h4) (bl_of g (by decide)) (mat a X W v g tk u.2 h6).v (star_cons h5)) (fun _ => rfl) fun _ _ _ q => nomatch q
        by_cases q : f = .lenSet
        · subst q
          obtain ⟨h1, h⟩ := bd h
          obtain ⟨h2, h⟩ := ba h
          match z, h with
          | .Call (.Name t p2) [v] [] p3, h =>
            obtain ⟨h3, h⟩ := bd h
            obtain ⟨h4, h⟩ := ba h
            obtain ⟨h5, h6⟩ := ba h
            subst h1
            subst h3
            exact rdg_val rfl (pe_lenSetT g.calm (glB_ok h2) (bl_of g (by decide)) (glB_ok h4) (bl_of g (by decide)) (mat a X W v g tk u.2 h6).v (star_cons h5)) (fun _ => rfl) fun _ _ _ q => nomatch q
        · have h : (decide (biName f = some y) && (glB X.env.scope y && (notStar z && mE X.N X.env.scope a z))) = true := by
            cases f <;> first | exact absurd rfl q | exact absurd rfl q0 | exact absurd rfl q9 | exact h
          obtain ⟨h1, h⟩ := bd h
          obtain ⟨h2, h⟩ := ba h
          obtain ⟨h3, h4⟩ := ba h
          exact rdg_val rfl (bi_call g h1 h2 h3 (mat a X W z g tk u.2 h4).v) (fun _ => rfl) fun _ _ _ q => nomatch q
      | .Name y p, [z, .Tuple [.Name t p2, .Name s p3] tk1 tp], [], h =>
        cases f with
        | isinLT =>
          obtain ⟨h1, h⟩ := bd h
          obtain ⟨h2, h⟩ := bd h
          obtain ⟨h2', h⟩ := bd h
          obtain ⟨h3, h⟩ := ba h
          obtain ⟨h4, h⟩ := ba h
          obtain ⟨h4', h⟩ := ba h
          obtain ⟨h5, h6⟩ := ba h
          subst h1
          subst h2
          subst h2'
          exact rdg_val rfl (pe_callB call_isiT (glB_ok h3) (bl_of g (by decide)) (by decide +kernel) (pa_cons (mat a X W z g tk u.2 h6).v (pa_cons (pe_tup (pa_cons (ty_glob g .lst h4) (pa_cons (ty_glob g .tup h4') pa_nil rfl) rfl)) pa_nil rfl) (star_cons h5)) (by decide) (by decide) (star_cons h5) rfl) (fun _ => rfl) fun _ _ _ q => nomatch q
        | _ => exact nomatch h
      | .Name y p, [z, .Name t p2], [], h =>
        cases f with
        | isinst ty =>
          obtain ⟨h1, h⟩ := bd h
          obtain ⟨h2, h⟩ := bd h
          obtain ⟨h3, h⟩ := ba h
          obtain ⟨h4, h⟩ := ba h
          obtain ⟨h5, h6⟩ := ba h
          subst h1
          subst h2
          exact rdg_val rfl (pe_callB call_isi (glB_ok h3) (bl_of g (by decide)) (by decide +kernel) (pa_cons (mat a X W z g tk u.2 h6).v (pa_cons (ty_glob g ty h4) pa_nil rfl) (star_cons h5)) (by decide) (by decide) (star_cons h5) rfl) (fun _ => rfl) fun _ _ _ q => nomatch q
        | isexc c =>
          obtain ⟨h1, h⟩ := bd h
          obtain ⟨h2, h⟩ := bd h
          obtain ⟨h0, h⟩ := bd h
          obtain ⟨h3, h⟩ := ba h
          obtain ⟨h4, h⟩ := ba h
          obtain ⟨h4', h⟩ := ba h
          obtain ⟨h5, h6⟩ := ba h
          subst h1
          subst h2
          exact rdg_val rfl (pe_isx g h3 h4 h4' h0 u.1 h5 (mat a X W z g tk u.2 h6).v) (fun _ => rfl) fun _ _ _ q => nomatch q
        | _ => exact nomatch h
    | _ => exact nomatch h
  | .b2 f a b, X, W, x, g, tk, u, h => by
    cases x with
    | Call fn args kws pos =>
      match fn, args, kws, h with
      | .Name y p, [z, t], [], h =>
        cases f with
        | max2 =>
          obtain ⟨h1, h⟩ := bd h
          obtain ⟨h2, h⟩ := ba h
          obtain ⟨h3, h⟩ := ba h
          obtain ⟨h4, h⟩ := ba h
          obtain ⟨h5, h6⟩ := ba h
          subst h1
          exact rdg_val rfl (pe_callB (call_max2 g.calm) (glB_ok h2) (bl_of g (by decide)) (by decide +kernel) (pa_cons (mat a X W z g tk u.1 h5).v (pa_cons (mat b X W t g tk u.2 h6).v pa_nil (star_cons h4)) (star_cons h3)) (by decide) (by decide) (star_cons h3) (by rw [star_cons h4]; rfl)) (fun _ => rfl) fun _ _ _ q => nomatch q
        | min2 =>
          obtain ⟨h1, h⟩ := bd h
          obtain ⟨h2, h⟩ := ba h
          obtain ⟨h3, h⟩ := ba h
          obtain ⟨h4, h⟩ := ba h
          obtain ⟨h5, h6⟩ := ba h
          subst h1
          exact rdg_val rfl (pe_callB (call_min2 g.calm) (glB_ok h2) (bl_of g (by decide)) (by decide +kernel) (pa_cons (mat a X W z g tk u.1 h5).v (pa_cons (mat b X W t g tk u.2 h6).v pa_nil (star_cons h4)) (star_cons h3)) (by decide) (by decide) (star_cons h3) (by rw [star_cons h4]; rfl)) (fun _ => rfl) fun _ _ _ q => nomatch q
        | _ => exact nomatch h
      | .Attribute z m ap, [t], [], h =>
        cases f with
        | index =>
          obtain ⟨h1, h⟩ := bd h
          obtain ⟨h2, h⟩ := ba h
          obtain ⟨h3, h⟩ := ba h
          obtain ⟨h4, h⟩ := ba h
          obtain ⟨h5, h6⟩ := ba h
          subst h1
          exact rdg_val rfl (pe_bm PySem.F.plainAttrs_list PySem.F.slot_list_index PySem.F.type_list_index mt_index (mat a X W z g tk u.1 h5).v (pa_cons (mat b X W t g tk u.2 h6).v pa_nil (star_cons h4)) (plainRecv_ok h2) (by rw [star_cons h4]; rfl) h3 (star_cons h4) rfl) (fun _ => rfl) fun _ _ _ q => nomatch q
        | join =>
          obtain ⟨h1, h⟩ := bd h
          obtain ⟨h2, h⟩ := ba h
          obtain ⟨h3, h⟩ := ba h
          obtain ⟨h4, h⟩ := ba h
          obtain ⟨h5, h6⟩ := ba h
          subst h1
          exact rdg_val rfl (pe_join (mat a X W z g tk u.1 h5).v (mat b X W t g tk u.2 h6).v (by rw [star_cons h4]; rfl) (plainRecv_ok h2) h3) (fun _ => rfl) fun _ _ _ q => nomatch q
        | split =>
          obtain ⟨h1, h⟩ := bd h
          obtain ⟨h2, h⟩ := ba h
          obtain ⟨h3, h⟩ := ba h
          obtain ⟨h4, h⟩ := ba h
          obtain ⟨h5, h6⟩ := ba h
          subst h1
          exact rdg_val rfl (pe_split (mat a X W z g tk u.1 h5).v (mat b X W t g tk u.2 h6).v (by rw [star_cons h4]; rfl) (plainRecv_ok h2) h3) (fun _ => rfl) fun _ _ _ q => nomatch q
        | count =>
          obtain ⟨h1, h⟩ := bd h
          obtain ⟨h2, h⟩ := ba h
          obtain ⟨h3, h⟩ := ba h
          obtain ⟨h4, h⟩ := ba h
          obtain ⟨h5, h6⟩ := ba h
          subst h1
          exact rdg_val rfl (pe_bm PySem.F.plainAttrs_list PySem.F.slot_list_count PySem.F.type_list_count mt_count (mat a X W z g tk u.1 h5).v (pa_cons (mat b X W t g tk u.2 h6).v pa_nil (star_cons h4)) (plainRecv_ok h2) (by rw [star_cons h4]; rfl) h3 (star_cons h4) rfl) (fun _ => rfl) fun _ _ _ q => nomatch q
        | _ => exact nomatch h
    | _ => exact nomatch h
  | .b3 f a b c, X, W, x, g, tk, u, h => by
    cases x with
    | Call fn args kws pos =>
      match fn, args, kws, h with
      | .Attribute z m ap, [t, r], [], h =>
        cases f with
        | get =>
          obtain ⟨h1, h⟩ := bd h
          obtain ⟨h2, h⟩ := ba h
          obtain ⟨h3, h⟩ := ba h
          obtain ⟨h4, h⟩ := ba h
          obtain ⟨h5, h⟩ := ba h
          obtain ⟨h6, h⟩ := ba h
          obtain ⟨h7, h8⟩ := ba h
          subst h1
          have e2 : starEach [t, r] X.env = [(false, eval t X.env), (false, eval r X.env)] := by rw [star_cons h4, star_cons h5]; rfl
          exact rdg_val rfl (pe_dget2 (hu1 g) (mat a X W z g tk u.1 h6).v (mat b X W t g tk u.2.1 h7).v (mat c X W r g tk u.2.2 h8).v ⟨plainRecv_ok h2, by rw [e2]; rfl, h3, by rw [e2]; rfl⟩) (fun _ => rfl) fun _ _ _ q => nomatch q
        | _ => exact nomatch h
    | _ => exact nomatch h
  | .rng src, X, W, x, g, tk, u, h => by
    cases x with
    | Call fn args kws pos =>
      match fn, args, kws, h with
      | .Name y p, [z], [], h =>
        obtain ⟨h1, h⟩ := bd h
        obtain ⟨h2, h⟩ := ba h
        obtain ⟨h3, h4⟩ := ba h
        subst h1
        exact rdg_val rfl (pe_listRg g.calm (glB_ok h2) (bl_of g (by decide)) (matrg src X W z g tk u h4) (star_cons h3)) (fun _ => rfl) fun _ _ _ q => nomatch q
    | _ => exact nomatch h
termination_by structural e => e
theorem mats : ∀ (es : Es) (X : Cx) (W : WX) (l : List Expr), Gd X → Takes X W → UEs (CC X) (GG X) es → mEs X.N X.env.scope es l = true → PA X l (rdEs X.K X.mg W es)
  | .nil, X, W, l, g, tk, u, h => by
    cases l with
    | nil => exact pa_nil
    | cons _ _ => exact nomatch h
  | .cons e es, X, W, l, g, tk, u, h => by
    cases l with
    | nil => exact nomatch h
    | cons y r =>
      obtain ⟨h1, h⟩ := ba h
      obtain ⟨h2, h3⟩ := ba h
      exact pa_cons (mat e X W y g tk u.1 h2).v (mats es X W r g tk u.2 h3) (star_cons h1)
termination_by structural e => e
theorem mato : ∀ (eo : Eo) (X : Cx) (W : WX) (l : Option Expr), Gd X → Takes X W → UO (CC X) (GG X) eo → mO X.N X.env.scope eo l = true → PO X l (rdEo X.K X.mg W eo)
  | .no, X, W, l, g, tk, u, h => by
    cases l with
    | none => exact po_none
    | some _ => exact nomatch h
  | .yes e, X, W, l, g, tk, u, h => by
    cases l with
    | none => exact nomatch h
    | some y => exact po_some (mat e X W y g tk u h).v
termination_by structural e => e
theorem matc : ∀ (eo : Eo) (X : Cx) (l : List Expr), Gd X → UO (CC X) (GG X) eo → mC X.N X.env.scope eo l = true → PTs X l (rdC X.K X.mg eo)
  | .no, X, l, g, u, h => by
    cases l with
    | nil => exact pts_nil
    | cons _ _ => exact nomatch h
  | .yes e, X, l, g, u, h => by
    match l, h with
    | [y], h =>
      obtain ⟨h1, h2⟩ := ba h
      exact pts_one ((mat e X W0 y g takes0 u h2).t h1)
termination_by structural e => e
theorem matsrc : ∀ (s : Src) (X : Cx) (W : WX) (tg x : Expr), Gd X → Takes X W → USrc (CC X) (GG X) s → mSrc X.N X.env.scope s tg x = true → PI X tg x (rdSrc X.K X.mg W s)
  | .seq e, X, W, tg, x, g, tk, u, h => pi_seq (mat e X W x g tk u h).v
  | .signs e, X, W, tg, x, g, tk, u, h => pi_str (mat e X W x g tk u h).v
  | .range1 a, X, W, tg, x, g, tk, u, h => by
    cases x with
    | Call fn args kws pos =>
      match fn, args, kws, h with
      | .Name y p, [z], [], h =>
        obtain ⟨h1, h⟩ := bd h
        obtain ⟨h2, h⟩ := ba h
        obtain ⟨h3, h4⟩ := ba h
        subst h1
        exact pi_range1 (glB_ok h2) (bl_of g (by decide)) (pa_cons (mat a X W z g tk u h4).v pa_nil (star_cons h3)) (star_cons h3)
    | _ => exact nomatch h
  | .range2 a b, X, W, tg, x, g, tk, u, h => by
    cases x with
    | Call fn args kws pos =>
      match fn, args, kws, h with
      | .Name y p, [z, t], [], h =>
        obtain ⟨h1, h⟩ := bd h
        obtain ⟨h2, h⟩ := ba h
        obtain ⟨h3, h⟩ := ba h
        obtain ⟨h4, h⟩ := ba h
        obtain ⟨h5, h6⟩ := ba h
        subst h1
        exact pi_range2 (glB_ok h2) (bl_of g (by decide)) (pa_cons (mat a X W z g tk u.1 h5).v (pa_cons (mat b X W t g tk u.2 h6).v pa_nil (star_cons h4)) (star_cons h3)) (by rw [star_cons h3, star_cons h4]; rfl) (star_cons h4)
    | _ => exact nomatch h
  | .enum a, X, W, tg, x, g, tk, u, h => by
    cases x with
    | Call fn args kws pos =>
      match fn, args, kws, h with
      | .Name y p, [z], [], h =>
        obtain ⟨h1, h⟩ := bd h
        obtain ⟨h0, h⟩ := ba h
        obtain ⟨h2, h⟩ := ba h
        obtain ⟨h3, h4⟩ := ba h
        subst h1
        cases tg with
        | Tuple l k tp => exact pi_enumA (glB_ok h2) (bl_of g (by decide)) (pa_cons (mat a X W z g tk u h4).v pa_nil (star_cons h3)) (star_cons h3)
        | _ => exact nomatch h0
    | _ => exact nomatch h
  | .zip a b, X, W, tg, x, g, tk, u, h => by
    cases x with
    | Call fn args kws pos =>
      match fn, args, kws, h with
      | .Name y p, [z, t], [], h =>
        obtain ⟨h1, h⟩ := bd h
        obtain ⟨h0, h⟩ := ba h
        obtain ⟨h2, h⟩ := ba h
        obtain ⟨h3, h⟩ := ba h
        obtain ⟨h4, h⟩ := ba h
        obtain ⟨h5, h6⟩ := ba h
        subst h1
        cases tg with
        | Tuple l k tp => exact pi_zipM (glB_ok h2) (bl_of g (by decide)) (pa_cons (mat a X W z g tk u.1 h5).v (pa_cons (mat b X W t g tk u.2 h6).v pa_nil (star_cons h4)) (star_cons h3)) (star_cons h3) (by rw [star_cons h4]; rfl)
        | _ => exact nomatch h0
    | _ => exact nomatch h
termination_by structural e => e
theorem matrg : ∀ (s : Src) (X : Cx) (W : WX) (x : Expr), Gd X → Takes X W → USrc (CC X) (GG X) s → mRg X.N X.env.scope s x = true → PRg X x (rdRg X.K X.mg W s)
  | .seq e, X, W, x, g, tk, u, h => nomatch h
  | .signs e, X, W, x, g, tk, u, h => nomatch h
  | .range1 a, X, W, x, g, tk, u, h => by
    cases x with
    | Call fn args kws pos =>
      match fn, args, kws, h with
      | .Name y p, [z], [], h =>
        obtain ⟨h1, h⟩ := bd h
        obtain ⟨h2, h⟩ := ba h
        obtain ⟨h3, h4⟩ := ba h
        subst h1
        exact prg_1 (glB_ok h2) (bl_of g (by decide)) (mat a X W z g tk u h4).v (star_cons h3)
    | _ => exact nomatch h
  | .range2 a b, X, W, x, g, tk, u, h => by
    cases x with
    | Call fn args kws pos =>
      match fn, args, kws, h with
      | .Name y p, [z, t], [], h =>
        obtain ⟨h1, h⟩ := bd h
        obtain ⟨h2, h⟩ := ba h
        obtain ⟨h3, h⟩ := ba h
        obtain ⟨h4, h⟩ := ba h
        obtain ⟨h5, h6⟩ := ba h
        subst h1
        exact prg_2 (glB_ok h2) (bl_of g (by decide)) (mat a X W z g tk u.1 h5).v (mat b X W t g tk u.2 h6).v (star_cons h3) (star_cons h4) (by rw [star_cons h4]; rfl)
    | _ => exact nomatch h
  | .enum e, X, W, x, g, tk, u, h => nomatch h
  | .zip a b, X, W, x, g, tk, u, h => nomatch h
termination_by structural e => e
end
end Lh
set_option Elab.async false
set_option linter.all false
set_option maxRecDepth 100000
set_option maxHeartbeats 4000000
namespace Lh
open PySem L2
theorem inv_note {X : Cx} {pins : List (Addr × Obj)} {σ : St} {H : Hp} {s : Shared} {a : Addr} {cls : Value} {oe : Obj} {vs : Array Value} (I : L2.Inv X pins σ H s) (e : s.heap.get? a = some oe) (z : Zc cls none oe) (d : oe.data = .fields vs)
    (hn : H a = none) (hl : a ≠ X.env.locals) (hp : ∀ p ∈ X.pn ++ pins, p.1 ≠ a) (h0 : X.s_0.heap.get? a = none) : L2.Inv X pins σ (upd H a (ExK cls a)) s := by
  have un : ∀ b, b ≠ a → upd H a (ExK cls a) b = H b := fun b hb => if_neg hb
  refine { ok := I.ok, os := I.os, bare := I.bare, base := ?_, loc := I.loc, cell := I.cell, free := ?_, freeC := ?_, pin := ?_, hok := HOk.laidN I.hok (fun _ _ q => q) hn (exK_ok e z d), len := I.len }
  · refine { keep := I.base.keep, slot := I.base.slot, free := fun b o q1 q2 q3 => ?_, there := I.base.there, tups := fun b xs q => ?_, frzs := fun b o u q => ?_, tbls := fun b ps q => ?_ }
    · have : b ≠ a := fun z => by rw [z, h0] at q1; cases q1
      rw [un b this]
      exact I.base.free b o q1 q2 q3
    · have q1 := I.base.tups b xs q
      have : b ≠ a := fun z => by rw [z, hn] at q1; cases q1
      rw [un b this]
      exact q1
    · have q1 := I.base.frzs b o u q
      have : b ≠ a := fun z => by rw [z, hn] at q1; cases q1
      rw [un b this]
      exact q1
    · obtain ⟨more, q1⟩ := I.base.tbls b ps q
      have : b ≠ a := fun z => by rw [z, hn] at q1; cases q1
      refine ⟨more, ?_⟩
      rw [un b this]
      exact q1
  · rw [un _ hl.symm]
    exact I.free
  · intro x c hx
    have : c ≠ a := fun q => by
      obtain ⟨v, hv⟩ := I.cell x c hx
      subst q
      obtain ⟨o, h1, h2⟩ := hv
      rw [e] at h1
      cases h1
      rw [d] at h2
      cases h2
    rw [un c this]
    exact I.freeC x c hx
  · intro p q
    obtain ⟨q1, q2, q3⟩ := I.pin p q
    refine ⟨q1, ?_, q3⟩
    rw [un _ (hp p q)]
    exact q2
/-- the wish within such a try -/
def wK (K : PySem.W.Frag) (c : Value) (i : Nat) (ts : Addr → Value → Option Addr → TS) (D : Ends) : WX := fun cls d σ H => d = none ∧ (PySem.W.exmOne K cls c = some true ∧
  ∀ a, H a = none → ts a cls d { nx := fun σ' H' => H' a = none → D.nx (σ'.set i none) (upd H' a (ExK cls a)), rt := fun _ _ => False, bk := fun _ _ => False, ct := fun _ _ => False } (σ.set i (some (.ref a))) H)
theorem ps_try_keep {X : Cx} {x n : Str} {c : Value} {i : Nat} {body suite : List Stmt} {b₀ : Stmt} {np pos pos' : Pos} {tb : WX → TS} {ts : Addr → Value → Option Addr → TS}
    (hs : X.stack = X.env :: X.outer) (hf : X.env.frame = some X.env.locals) (hN : X.N.Nodup) (hi : X.N[i]? = some n) (hln : X.env.kindOf n = some .local) (hc : Names X x c) (hex : X.ex = [])
    (hb : ∀ (W : WX) (pn : List (Addr × Obj)) (xe : Value → Shared → Prop), Takes (X.tr pn xe) W → PassesOwn (model X.prog X.w) X.A X.env xe → PSs (X.tr pn xe) body (tb W))
    (hsu : ∀ (a : Addr) (oe : Obj) (cls : Value) (d : Option Addr) (pn : List (Addr × Obj)), Zc cls d oe → (∃ vs, oe.data = .fields vs) → PSs (X.suite a ((a, oe) :: pn)) (b₀ :: suite) (ts a cls d)) :
    PS X (.Try body [.ExceptHandler (some (.Name x np)) (some n) (b₀ :: suite) pos'] [] [] pos) (fun D σ H => tb (wK X.K c i ts D) D σ H) := by
  refine ⟨fun pins s σ H D I h => ?_⟩
  have ok := I.ok
  have hfr : X.A.frames = some (X.env :: X.outer) := by rw [ok.frames, hs]
  have hloc : L2.Loc X.env.scope n := Or.inl hln
  refine wpAny_Try_except (wpAny_mono ((hb (wK X.K c i ts D) (X.pn ++ pins)
    (fun e s₁ => wpAny (model X.prog X.w) X.A (noteFrame e X.env) (fun _ s₂ => wpAny (model X.prog X.w) X.A (setFlight e none) (fun _ s₃ => wpAny (model X.prog X.w) X.A (handleBy e X.env [.ExceptHandler (some (.Name x np)) (some n) (b₀ :: suite) pos']) (SP X pins D) X.xe s₃) X.xe s₂) X.xe s₁) ?_ ?_).run [] s σ H D ?_ h) ?_ ?_)
  · rintro u s' ⟨a, B, sI, pins', σ', H', cls, d, rfl, J', nb, up, sky, na, os, ag, hd0, hb1, hyes⟩
    have J : L2.Inv X pins σ' H' sI := Inv.ofTry J' ok
    have sky' : Sky B (X.env :: X.outer) a (Zc cls d) X.env.locals s'.heap := hs ▸ sky
    refine Sky.land Zc.steady hfr hf sky' fun h3 fl3 up3 => ?_
    have J3 := Inv.landed (s' := { heap := h3, gens := s'.gens, drawn := s'.drawn, toks := s'.toks, os := s'.os }) J nb fl3.1 (Heap.UpToSlots.trans up up3) os ag
    obtain ⟨oe3, vs3, he3, hz3, hd3⟩ := HandSPX.FlyingZ.there fl3
    have nfr : a ∉ frs (X.env :: X.outer) := fun hm => by
      obtain ⟨_, o', e', hnf⟩ := Heap.FunFrames.mem fl3.2.2.1 hm
      rw [he3] at e'
      cases e'
      exact hnf _ hd3
    have nL : a ≠ X.env.locals := fun z => nfr (List.mem_filterMap.mpr ⟨X.env, List.mem_cons_self, by rw [hf, z]⟩)
    have nF : a ∉ X.fs := fun hm => by
      obtain ⟨e, he, q⟩ := List.mem_filterMap.mp hm
      exact nfr (List.mem_filterMap.mpr ⟨e, List.mem_cons_of_mem _ he, q⟩)
    have nI : ∀ o, sI.heap.get? a ≠ some o := fun o q => by
      have := nb a o q (by rw [hs]; exact nfr)
      rw [fl3.2.1] at this
      cases this
    have n0 : X.s_0.heap.get? a = none := by
      cases q : X.s_0.heap.get? a with
      | none => rfl
      | some o =>
        obtain ⟨o', q'⟩ := J.base.there a o q (by rw [hex]; exact List.not_mem_nil)
        exact absurd q' (nI o')
    have np' : ∀ p ∈ X.pn ++ pins, p.1 ≠ a := fun p hp z => nI p.2 (by
      have := (J.pin p hp).1
      rwa [z] at this)
    have S3 := Inv.suite J3 he3 hd3 na nL nF
    refine wpAny_handleBy_cons (codeAny_handlers_test ?_) fun z => (nomatch z)
    have LT : PySem.W.Looks (model X.prog X.w) h3 (typeOf (Value.ref a)) cls := fun A Q E s k q => wpAny_typeOf_ref (k a oe3 he3) (by rw [hz3.1]; exact q)
    have LM := PySem.W.exm_one (Inv.kIn J3) LT hb1
    have test : ∀ {Q : Value → Shared → Prop} {E : Value → Shared → Prop}, Q c { heap := h3, gens := s'.gens, drawn := s'.drawn, toks := s'.toks, os := s'.os } → wpAny (model X.prog X.w) (X.A.mark (some (Value.ref a))) (eval (.Name x np) X.env) Q E { heap := h3, gens := s'.gens, drawn := s'.drawn, toks := s'.toks, os := s'.os } := fun q => by
      obtain ⟨hg, hdbg, hm | ⟨hm, hv, hnn⟩⟩ := hc
      · exact ld_glob S3 hg hm q hdbg
      · exact ld_blt S3 hg hm hv q hnn hdbg
    refine test (PySem.W.Looks.here LM ?_)
    refine codeAny_handlers_suite_as (HandSPX.lands_againZ fl3 fun h4 fl4 up4 => ?_)
    have J4 := Inv.landed (s' := { heap := h4, gens := s'.gens, drawn := s'.drawn, toks := s'.toks, os := s'.os }) J nb fl4.1 (Heap.UpToSlots.trans (Heap.UpToSlots.trans up up3) up4) os ag
    obtain ⟨oe4, vs4, he4, hz4, hd4⟩ := HandSPX.FlyingZ.there fl4
    have S4 := Inv.suite J4 he4 hd4 na nL nF
    refine L2.store_ok (X := X.suite a ((a, oe4) :: (X.pn ++ pins))) S4 hN hi hloc (v := .ref a) rfl (fun s5 S5 => ?_) (Or.inr hln)
    refine wpAny_mono ((hsu a oe4 cls d (X.pn ++ pins) hz4 ⟨vs4, hd4⟩).run [] s5 (σ'.set i (some (.ref a))) H' _ S5 (hyes a na)) (fun f s6 hsp => ?_) fun _ _ z => z.elim
    cases f with
    | next =>
      obtain ⟨σ6, H6, S6, q6⟩ := hsp
      obtain ⟨p1, p2, p3, p4, p5⟩ := S6.pin (a, oe4) (List.mem_append_left _ List.mem_cons_self)
      have S7 : L2.Inv X pins σ6 (upd H6 a (ExK cls a)) s6 := inv_note (Inv.unsuite S6 ok) p1 (hd0 ▸ hz4) hd4 p2 p3 np' n0
      exact gone_ok S7 hN hi hln fun s7 J7 => ⟨_, _, J7, q6 p2⟩
    | brk => obtain ⟨_, _, _, z⟩ := hsp; exact z.elim
    | cont => obtain ⟨_, _, _, z⟩ := hsp; exact z.elim
    | ret u => obtain ⟨_, _, _, _, _, z⟩ := hsp; exact z.elim
  · exact PassesOwn.looking
  · exact Inv.toTry I _
  · intro f s1 hsp
    cases f with
    | next =>
      obtain ⟨σ', H', J', q⟩ := hsp
      exact wpAny_execs_nil ⟨σ', H', Inv.ofTry J' ok, q⟩
    | brk =>
      obtain ⟨σ', H', J', q⟩ := hsp
      exact ⟨σ', H', Inv.ofTry J' ok, q⟩
    | cont =>
      obtain ⟨σ', H', J', q⟩ := hsp
      exact ⟨σ', H', Inv.ofTry J' ok, q⟩
    | ret u =>
      obtain ⟨v, σ', H', J', r, q⟩ := hsp
      exact ⟨v, σ', H', Inv.ofTry J' ok, r, q⟩
  · exact fun e s1 he => he
end Lh
set_option Elab.async false
set_option linter.all false
set_option maxRecDepth 100000
set_option maxHeartbeats 4000000
namespace Lh
open PySem L2
abbrev Own := Addr → Option Nat
/-- marked, and nobody's own -/
def Nf (N0 : Addr → Prop) (O : Own) : Addr → Prop := fun a => N0 a ∧ O a = none
/-- the lists in an own list -/
inductive Inn (K : PySem.W.Frag) (N0 : Addr → Prop) (O : Own) (H : Hp) (i : Nat) : List Addr → List (List Val) → Prop where
  | nil : Inn K N0 O H i [] []
  | cons {b : Addr} {xs : List V} {ws : List Val} {as : List Addr} {wss : List (List Val)} (h : H b = some (.lst xs)) (o : O b = some i) (hl : ws.length ≤ cap) (r : Reps K (Nf N0 O) H xs ws) (t : Inn K N0 O H i as wss) : Inn K N0 O H i (b :: as) (ws :: wss)
inductive SlotR (K : PySem.W.Frag) (N0 : Addr → Prop) (O : Own) (H : Hp) (i : Nat) : Slot → Option (Option V) → Prop where
  | non {x : Option (Option V)} : SlotR K N0 O H i .non x
  | val {z : V} {v : Val} (r : Rep K (Nf N0 O) H z v) : SlotR K N0 O H i (.val v) (some (some z))
  | own {a : Addr} {xs : List V} {ws : List Val} (h : H a = some (.lst xs)) (o : O a = some i) (hl : ws.length ≤ cap) (r : Reps K (Nf N0 O) H xs ws) : SlotR K N0 O H i (.own ws) (some (some (.ref a)))
  | own2 {a : Addr} {as : List Addr} {wss : List (List Val)} (h : H a = some (.lst (as.map .ref))) (o : O a = some i) (hl : wss.length ≤ cap) (nd : as.Nodup) (na : a ∉ as) (t : Inn K N0 O H i as wss) : SlotR K N0 O H i (.own2 wss) (some (some (.ref a)))
  | odK {a : Addr} {kvs : List (Key × V)} {ks ws : List Val} (h : H a = some (.dK kvs)) (o : O a = some i) (hk : ks = kvs.map fun p => keyV p.1) (hl : ws.length ≤ cap) (r : Reps K (Nf N0 O) H (kvs.map (·.2)) ws) : SlotR K N0 O H i (.odct true ks ws) (some (some (.ref a)))
  | odT {a : Addr} {kvs : List (List Key × V)} {ks ws : List Val} (h : H a = some (.dT kvs)) (o : O a = some i) (hk : (∀ p ∈ kvs, p.1.length ≤ cap) ∧ ks = kvs.map fun p => .tup (p.1.map keyV)) (hl : ws.length ≤ cap) (r : Reps K (Nf N0 O) H (kvs.map (·.2)) ws) : SlotR K N0 O H i (.odct false ks ws) (some (some (.ref a)))
  | obj {a : Addr} {nm : List Str} {fs : List Val} (c : ContR K (Nf N0 O) H a (.obj nm fs)) (o : O a = some i) : SlotR K N0 O H i (.obj nm fs) (some (some (.ref a)))
  | io {a : Addr} {ct : Cont} (c : ContR K (Nf N0 O) H a ct) (o : O a = some i) : SlotR K N0 O H i (.io a ct) (some (some (.ref a)))
  | deep {z : V} {v : Val} (r : Rep K (fun b => O b = some i) H z v) : SlotR K N0 O H i (.deep v) (some (some z))
structure EnvR (K : PySem.W.Frag) (N0 : Addr → Prop) (H0 : Hp) (O : Own) (H : Hp) (σ : St) (ρ : Env) : Prop where
  s0 : Same H0 H
  f0 : Fr H0 N0
  o0 : ∀ a i, O a = some i → H0 a = none ∧ H a ≠ none
  len : σ.length = ρ.length
  at' : ∀ (i : Nat) (s : Slot), ρ[i]? = some s → SlotR K N0 O H i s σ[i]?
/-- what changes behind the slots is -/
structure Frm (N0 : Addr → Prop) (is : List Nat) (O : Own) (H : Hp) (O' : Own) (H' : Hp) : Prop where
  k : ∀ a o, H a = some o → (Nf N0 O a ∨ sturdy o) → H' a = some o
  n : ∀ a, H a ≠ none → O a = none → O' a = none
  j : ∀ a j, j ∉ is → O a = some j → H a ≠ none → H' a = H a ∧ O' a = some j
  l : ∀ a, H a ≠ none → H' a ≠ none
theorem Frm.keep {N0 : Addr → Prop} {is : List Nat} {O O' : Own} {H H' : Hp} (f : Frm N0 is O H O' H') {K : PySem.W.Frag} {v : V} {w : Val} (r : Rep K (Nf N0 O) H v w) : Rep K (Nf N0 O') H' v w := by
  have k : Keep (fun a => Nf N0 O a ∧ (H a ≠ none ∨ O' a = none)) H H' := fun a o h hh => f.k a o h (hh.imp (·.1) id)
  have r1 := r.keep (N' := fun a => Nf N0 O a ∧ (H a ≠ none ∨ O' a = none)) (fun a n h => ⟨n, .inl h⟩) k
  refine r1.more fun a ha => ⟨ha.1.1, ?_⟩
  rcases ha.2 with h | h
  · exact f.n a h ha.1.2
  · exact h
theorem Frm.keeps {N0 : Addr → Prop} {is : List Nat} {O O' : Own} {H H' : Hp} (f : Frm N0 is O H O' H') {K : PySem.W.Frag} {v : List V} {w : List Val} (r : Reps K (Nf N0 O) H v w) : Reps K (Nf N0 O') H' v w := by
  have k : Keep (fun a => Nf N0 O a ∧ (H a ≠ none ∨ O' a = none)) H H' := fun a o h hh => f.k a o h (hh.imp (·.1) id)
  have r1 := r.keep (N' := fun a => Nf N0 O a ∧ (H a ≠ none ∨ O' a = none)) (fun a n h => ⟨n, .inl h⟩) k
  refine r1.more fun a ha => ⟨ha.1.1, ?_⟩
  rcases ha.2 with h | h
  · exact f.n a h ha.1.2
  · exact h
theorem some_ne {α : Type} {o : Option α} {x : α} (h : o = some x) : o ≠ none := by rw [h]; exact fun z => nomatch z
theorem Frm.inn {N0 : Addr → Prop} {is : List Nat} {O O' : Own} {H H' : Hp} (f : Frm N0 is O H O' H') {K : PySem.W.Frag} {i : Nat} (hi : i ∉ is) : ∀ {as : List Addr} {wss : List (List Val)}, Inn K N0 O H i as wss → Inn K N0 O' H' i as wss
  | _, _, .nil => .nil
  | _, _, .cons h o hl r t => .cons ((f.j _ i hi o (some_ne h)).1.trans h) (f.j _ i hi o (some_ne h)).2 hl (f.keeps r) (f.inn hi t)
theorem Frm.cont {N0 : Addr → Prop} {is : List Nat} {O O' : Own} {H H' : Hp} (f : Frm N0 is O H O' H') {K : PySem.W.Frag} {a : Addr} {c : Cont} (e : H' a = H a) (r : ContR K (Nf N0 O) H a c) : ContR K (Nf N0 O') H' a c := by
  cases r with
  | lst h hl r => exact .lst (e.trans h) hl (f.keeps r)
  | dK h hk hl r => exact .dK (e.trans h) hk hl (f.keeps r)
  | obj h hm hp r => exact .obj (e.trans h) hm hp (f.keeps r)
theorem Frm.slot {N0 : Addr → Prop} {is : List Nat} {O O' : Own} {H H' : Hp} (f : Frm N0 is O H O' H') {K : PySem.W.Frag} {i : Nat} (hi : i ∉ is) {s : Slot} {x : Option (Option V)} (r : SlotR K N0 O H i s x) : SlotR K N0 O' H' i s x := by
  cases r with
  | non => exact .non
  | val r => exact .val (f.keep r)
  | own h o hl r => exact .own ((f.j _ i hi o (some_ne h)).1.trans h) (f.j _ i hi o (some_ne h)).2 hl (f.keeps r)
  | own2 h o hl nd na t => exact .own2 ((f.j _ i hi o (some_ne h)).1.trans h) (f.j _ i hi o (some_ne h)).2 hl nd na (f.inn hi t)
  | odK h o hk hl r => exact .odK ((f.j _ i hi o (some_ne h)).1.trans h) (f.j _ i hi o (some_ne h)).2 hk hl (f.keeps r)
  | odT h o hk hl r => exact .odT ((f.j _ i hi o (some_ne h)).1.trans h) (f.j _ i hi o (some_ne h)).2 hk hl (f.keeps r)
  | obj c o => exact .obj (f.cont (f.j _ i hi o c.live.1).1 c) (f.j _ i hi o c.live.1).2
  | io c o => exact .io (f.cont (f.j _ i hi o c.live.1).1 c) (f.j _ i hi o c.live.1).2
  | deep r =>
    have r1 := r.keep (N' := fun b => O b = some i ∧ H b ≠ none) (fun a n h => ⟨n, h⟩) (.refl _ _)
    have r2 := r1.keep (N' := fun b => O b = some i ∧ H b ≠ none) (fun a n h => n) (show Keep (fun b => O b = some i ∧ H b ≠ none) H H' from fun a o h hh => by
      rcases hh with hh | hh
      · rw [(f.j a i hi hh.1 hh.2).1]
        exact h
      · exact f.k a o h (.inr hh))
    exact .deep (r2.more fun a ha => (f.j a i hi ha.1 ha.2).2)
theorem Frm.of_same {N0 : Addr → Prop} {O : Own} {H H' : Hp} (s : Same H H') : Frm N0 [] O H O H' :=
  ⟨fun a o h _ => s a o h, fun _ _ h => h, fun a j _ o h => by
    cases e : H a with
    | none => exact absurd e h
    | some x => exact ⟨s a x e, o⟩, fun a h => by
    cases e : H a with
    | none => exact absurd e h
    | some x => exact some_ne (s a x e)⟩
theorem Frm.trans {N0 : Addr → Prop} {is js : List Nat} {O O1 O2 : Own} {H H1 H2 : Hp} (a : Frm N0 is O H O1 H1) (b : Frm N0 js O1 H1 O2 H2) : Frm N0 (is ++ js) O H O2 H2 :=
  ⟨fun x o h hh => b.k x o (a.k x o h hh) (hh.imp (fun q => ⟨q.1, a.n x (some_ne h) q.2⟩) id), fun x h o => b.n x (a.l x h) (a.n x h o), fun x j hj o h => by
    rw [List.mem_append, not_or] at hj
    obtain ⟨h1, o1⟩ := a.j x j hj.1 o h
    obtain ⟨h2, o2⟩ := b.j x j hj.2 o1 (a.l x h)
    exact ⟨h2.trans h1, o2⟩, fun x h => b.l x (a.l x h)⟩
/-- a write to an own object -/
theorem Frm.write {N0 : Addr → Prop} {O : Own} {H : Hp} {a : Addr} {i : Nat} {o o' : HO} (oa : O a = some i) (h : H a = some o) (hs : ¬ sturdy o) : Frm N0 [i] O H O (upd H a o') :=
  ⟨fun x ox hx hh => by
    have hne : x ≠ a := fun z => by
      subst z
      rcases hh with hh | hh
      · rw [hh.2] at oa
        cases oa
      · rw [h] at hx
        cases hx
        exact hs hh
    rw [upd_ne hne]
    exact hx, fun _ _ h => h, fun x j hj ox hx => by
    have hne : x ≠ a := fun z => by
      subst z
      rw [oa] at ox
      cases ox
      exact hj (List.mem_singleton.mpr rfl)
    rw [upd_ne hne]
    exact ⟨rfl, ox⟩, fun x hx => by
    by_cases z : x = a
    · subst z
      rw [upd_same]
      exact fun q => nomatch q
    · rw [upd_ne z]
      exact hx⟩
def setO (O : Own) (a : Addr) (i : Nat) : Own := fun b => if b = a then some i else O b
theorem setO_same {O : Own} {a : Addr} {i : Nat} : setO O a i a = some i := if_pos rfl
theorem setO_ne {O : Own} {a b : Addr} {i : Nat} (h : b ≠ a) : setO O a i b = O b := if_neg h
/-- a new object made one's own -/
theorem Frm.take {N0 : Addr → Prop} {O : Own} {H H' : Hp} {a : Addr} {i : Nat} (s : Same H H') (h : H a = none) : Frm N0 [] O H (setO O a i) H' := by
  have f := Frm.of_same (N0 := N0) (O := O) s
  refine ⟨f.k, fun x hx o => ?_, fun x j hj o hx => ?_, f.l⟩
  · rw [setO_ne fun z => hx (by rw [z]; exact h)]
    exact o
  · rw [setO_ne fun z => hx (by rw [z]; exact h)]
    exact f.j x j hj o hx
/-- all of j's goes to i -/
def movO (O : Own) (j i : Nat) : Own := fun b => if O b = some j then some i else O b
theorem Frm.move {N0 : Addr → Prop} {O : Own} {H : Hp} {i j : Nat} : Frm N0 [j] O H (movO O j i) H :=
  ⟨fun _ _ h _ => h, fun a _ o => by
    unfold movO
    rw [o]
    rfl, fun a k hk o h => ⟨rfl, by
    unfold movO
    rw [if_neg, o]
    rw [o]
    exact fun z => hk (by cases z; exact List.mem_singleton.mpr rfl)⟩, fun _ h => h⟩
section
variable {K : PySem.W.Frag} {N0 : Addr → Prop} {H0 : Hp} {O : Own} {H : Hp} {σ : St} {ρ : Env}
theorem EnvR.fr0 (e : EnvR K N0 H0 O H σ ρ) : Fr H N0 := e.f0.same e.s0
theorem EnvR.fr (e : EnvR K N0 H0 O H σ ρ) : Fr H (Nf N0 O) := fun a h => ⟨e.fr0 a h, by
  cases z : O a with
  | none => rfl
  | some i => exact absurd h (e.o0 a i z).2⟩
theorem EnvR.n0 (e : EnvR K N0 H0 O H σ ρ) {a : Addr} {i : Nat} (h : O a = some i) : N0 a := e.f0 a (e.o0 a i h).1
theorem erase_get (ρ : Env) (i : Nat) : (eraseM ρ)[i]? = ρ[i]?.map Slot.erase := List.getElem?_map
theorem EnvR.obA (e : EnvR K N0 H0 O H σ ρ) {i : Nat} {p : List Str × List Val} (h : flds ρ[i]? = some p) : ∃ a dx fl, σ[i]? = some (some (.ref a)) ∧ H a = some (.ins (C0 K) dx fl) ∧ p.1 = fl.map (·.1) ∧ Val.pures p.2 = true ∧ Reps K (Nf N0 O) H (fl.map (·.2)) p.2 := by
  cases q : ρ[i]? with
  | none =>
    rw [q] at h
    cases h
  | some s =>
    rw [q] at h
    have r := e.at' i s q
    generalize hx : σ[i]? = x at r
    cases r with
    | val r =>
      cases r with
      | obj n h1 hm hp r =>
        cases h
        exact ⟨_, _, _, rfl, h1, hm, hp, r⟩
      | _ => exact nomatch h
    | obj c o =>
      cases c with
      | obj h1 hm hp r =>
        cases h
        exact ⟨_, _, _, rfl, h1, hm, hp, r⟩
    | io c o =>
      cases c with
      | obj h1 hm hp r =>
        cases h
        exact ⟨_, _, _, rfl, h1, hm, hp, r⟩
      | _ => exact nomatch h
    | _ => exact nomatch h
theorem flds_erase {i : Nat} {p : List Str × List Val} (h : flds (eraseM ρ)[i]? = some p) : flds ρ[i]? = some p := by
  rw [erase_get] at h
  cases q : ρ[i]? with
  | none =>
    rw [q] at h
    cases h
  | some s =>
    rw [q] at h
    cases s with
    | io t c => cases c <;> first | exact h | exact nomatch h
    | _ => first | exact h | exact nomatch h
/-- no changed list in sight -/
theorem EnvR.ev (e : EnvR K N0 H0 O H σ ρ) : Ev K (Nf N0 O) H σ (eraseM ρ) :=
  ⟨by unfold eraseM; rw [List.length_map]; exact e.len, fun i w h => by
    rw [erase_get] at h
    cases q : ρ[i]? with
    | none =>
      rw [q] at h
      cases h
    | some s =>
      rw [q] at h
      have r := e.at' i s q
      generalize hx : σ[i]? = x at r
      cases r with
      | val r =>
        cases h
        exact ⟨_, rfl, r⟩
      | io c o => cases c <;> exact nomatch h
      | _ => exact (nomatch h), fun i p h => e.obA (flds_erase h)⟩
theorem Inn.reps {i : Nat} (hn : ∀ a, O a = some i → N0 a) : ∀ {as : List Addr} {wss : List (List Val)}, Inn K N0 O H i as wss → Reps K N0 H (as.map .ref) (wss.map .lst)
  | _, _, .nil => .nil
  | _, _, .cons h o hl r t => .cons (.lst (hn _ o) h hl (r.more fun _ q => q.1)) (Inn.reps hn t)
theorem EnvR.ev0 (e : EnvR K N0 H0 O H σ ρ) : Ev K N0 H σ ρ :=
  ⟨e.len, fun i w h => by
    cases q : ρ[i]? with
    | none =>
      rw [q] at h
      cases h
    | some s =>
      rw [q] at h
      have r := e.at' i s q
      generalize hx : σ[i]? = x at r
      cases r with
      | non => exact nomatch h
      | val r =>
        cases h
        exact ⟨_, rfl, r.more fun _ q => q.1⟩
      | own h1 o hl r =>
        cases h
        exact ⟨_, rfl, .lst (e.n0 o) h1 hl (r.more fun _ q => q.1)⟩
      | own2 h1 o hl nd na t =>
        cases h
        exact ⟨_, rfl, .lst (e.n0 o) h1 (by rw [List.length_map]; exact hl) (t.reps fun a oa => e.n0 oa)⟩
      | odK h1 o hk hl r =>
        cases h
        exact ⟨_, rfl, .dK (e.n0 o) h1 hk hl (r.more fun _ q => q.1)⟩
      | odT h1 o hk hl r =>
        cases h
        exact ⟨_, rfl, .dT (e.n0 o) h1 hk hl (r.more fun _ q => q.1)⟩
      | obj c o =>
        cases c with
        | obj h1 hm hp r =>
          cases h
          exact ⟨_, rfl, .obj (e.n0 o) h1 hm hp (r.more fun _ q => q.1)⟩
      | io c o =>
        cases c with
        | lst h1 hl r =>
          cases h
          exact ⟨_, rfl, .lst (e.n0 o) h1 hl (r.more fun _ q => q.1)⟩
        | dK h1 hk hl r =>
          cases h
          exact ⟨_, rfl, .dK (e.n0 o) h1 hk hl (r.more fun _ q => q.1)⟩
        | obj h1 hm hp r =>
          cases h
          exact ⟨_, rfl, .obj (e.n0 o) h1 hm hp (r.more fun _ q => q.1)⟩
      | deep r => exact (nomatch h), fun i p h =>
    let ⟨a, dx, fl, h1, h2, h3, h4, h5⟩ := e.obA h
    ⟨a, dx, fl, h1, h2, h3, h4, h5.more fun _ q => q.1⟩⟩
/-- the slots is are forgotten or told anew -/
theorem EnvR.frm {is : List Nat} {O' : Own} {H' : Hp} {σ' : St} {ρ' : Env} (e : EnvR K N0 H0 O H σ ρ) (f : Frm N0 is O H O' H') (ho : ∀ a i, O' a = some i → H0 a = none ∧ H' a ≠ none) (hl : σ'.length = ρ'.length)
    (hs : ∀ i s, ρ'[i]? = some s → (i ∉ is ∧ ρ[i]? = some s ∧ σ'[i]? = σ[i]?) ∨ SlotR K N0 O' H' i s σ'[i]?) (hH : Same H0 H') : EnvR K N0 H0 O' H' σ' ρ' :=
  ⟨hH, e.f0, ho, hl, fun i s h => by
    rcases hs i s h with ⟨h1, h2, h3⟩ | h1
    · rw [h3]
      exact f.slot h1 (e.at' i s h2)
    · exact h1⟩
theorem EnvR.same {H' : Hp} (e : EnvR K N0 H0 O H σ ρ) (s : Same H H') : EnvR K N0 H0 O H' σ ρ :=
  have f := Frm.of_same (N0 := N0) (O := O) s
  e.frm f (fun a i h => ⟨(e.o0 a i h).1, f.l a (e.o0 a i h).2⟩) e.len (fun i s h => .inl ⟨List.not_mem_nil, h, rfl⟩) (e.s0.trans s)
theorem EnvR.set {i : Nat} {z : V} {v : Val} (e : EnvR K N0 H0 O H σ ρ) (r : Rep K (Nf N0 O) H z v) : EnvR K N0 H0 O H (σ.set i (some z)) (ρ.set i (.val v)) :=
  e.frm (.of_same (Same.refl H)) e.o0 (by rw [List.length_set, List.length_set]; exact e.len) (fun j s h => by
    rw [List.getElem?_set] at h ⊢
    by_cases q : i = j
    · subst q
      rw [if_pos rfl] at h ⊢
      split at h
      · rename_i hl
        cases h
        rw [e.len, if_pos hl]
        exact .inr (.val r)
      · cases h
    · rw [if_neg q] at h ⊢
      exact .inl ⟨List.not_mem_nil, h, rfl⟩) e.s0
theorem EnvR.kill (e : EnvR K N0 H0 O H σ ρ) (is : List Nat) : EnvR K N0 H0 O H σ (kill ρ is) := by
  refine e.frm (.of_same (Same.refl H)) e.o0 (by rw [kill_length]; exact e.len) (fun j s h => ?_) e.s0
  have : ∀ (is : List Nat) (ρ : Env) (s : Slot), (Lh.kill ρ is)[j]? = some s → s = .non ∨ ρ[j]? = some s := by
    intro is
    induction is with
    | nil => exact fun ρ s h => .inr h
    | cons i is ih =>
      intro ρ s h
      rcases ih _ _ h with q | q
      · exact .inl q
      · rw [List.getElem?_set] at q
        split at q
        · split at q
          · cases q
            exact .inl rfl
          · cases q
        · exact .inr q
  rcases this is ρ s h with q | q
  · subst q
    exact .inr .non
  · exact .inl ⟨List.not_mem_nil, q, rfl⟩
end
end Lh
set_option Elab.async false
set_option linter.all false
set_option maxRecDepth 100000
set_option maxHeartbeats 4000000
namespace Lh
open PySem L2
section
variable {K : PySem.W.Frag} {mg : Str → Option Value} {N0 : Addr → Prop} {H0 : Hp} {O : Own} {H : Hp} {σ : St} {ρ : Env}
theorem store_ok {m : Md} {e : E} {W : WX} {v : Val} {Q : VK} (hw : wf e = true) (er : EnvR K N0 H0 O H σ ρ) (h : storeV m e ρ = .ok v)
    (k : ∀ z H', Same H H' → Rep K (Nf N0 O) H' z v → (frM m e = true → ∀ a ws, z = .ref a → v = .lst ws → NewL K (Nf N0 O) H H' a ws) → Q z H') : (rd K mg W e).1 σ H Q := by
  cases m with
  | plain => exact (den W e hw).1.ok (Nf N0 O) H σ (eraseM ρ) v Q er.fr er.ev h k
  | pure =>
    obtain ⟨u, h1, h2⟩ := bind_ok (show (evE e ρ).bind _ = .ok v from h)
    split at h2
    · rename_i hp
      cases h2
      refine (den W e hw).1.ok N0 H σ ρ v Q er.fr0 er.ev0 h1 fun z H' s r f => k z H' s (r.ofPure hp) fun hf a ws ez ew => ?_
      subst ew
      exact nomatch hp
    · exact nomatch h2
  | fresh =>
    obtain ⟨u, h1, h2⟩ := bind_ok (show (evE e ρ).bind _ = .ok v from h)
    cases u with
    | lst xs =>
      have h3 : (if (freshTop e && xs.all Val.pure) = true then Res.ok (Val.lst xs) else .stuck) = .ok v := h2
      split at h3
      · rename_i hp
        cases h3
        rw [Bool.and_eq_true] at hp
        refine (den W e hw).1.ok N0 H σ ρ _ Q er.fr0 er.ev0 h1 fun z H' s r f => ?_
        cases r with
        | @lst a ys _ n h hl r =>
          have nw := f hp.1 a xs rfl rfl
          have nf : Nf N0 O a := er.fr a nw.1
          refine k _ H' s (.lst nf h hl (r.ofPure (pures_of_all hp.2))) fun _ a' ws ez ew => ?_
          cases ez
          cases ew
          exact ⟨nw.1, ys, h, r.ofPure (pures_of_all hp.2)⟩
      · exact nomatch h3
    | _ => exact nomatch h2
  | call =>
    match e, hw, h with
    | .call x F es, hw, h =>
      obtain ⟨us, h1, h2⟩ := bind_ok (show (evEs es (eraseM ρ)).bind _ = .ok v from h)
      split at h2
      · rename_i hp
        obtain ⟨u, h3, h4⟩ := bind_ok h2
        cases u with
        | lst ws =>
          have h5 : (if Val.pures ws = true then Res.ok (Val.lst ws) else .stuck) = .ok v := h4
          split at h5
          · rename_i hq
            cases h5
            show tCallS (PSp K mg F) (WE W) (rdEs K mg W es) σ H Q
            refine (dens W es hw).ok (Nf N0 O) H σ (eraseM ρ) us _ er.fr er.ev h1 fun xs H1 s1 r1 => ?_
            refine ⟨fun a => H1 a = none, us, fun a ha => ha, r1.ofPure hp, .inl ⟨_, h3, fun z H2 s2 r2 => ?_⟩⟩
            cases r2 with
            | @lst a ys _ n h hl r =>
              have hn : H a = none := s1.free n
              refine k _ H2 (s1.trans s2) (.lst (er.fr a hn) h hl (r.ofPure hq)) fun _ a' ws' ez ew => ?_
              cases ez
              cases ew
              exact ⟨hn, ys, h, r.ofPure hq⟩
          · exact nomatch h5
        | _ => exact nomatch h4
      · exact nomatch h2
theorem store_exc {m : Md} {e : E} {W : WX} {c : Str} {Q : VK} (hw : wf e = true) (er : EnvR K N0 H0 O H σ ρ) (h : storeV m e ρ = .exc c) (k : ExcW mg W σ H c) : (rd K mg W e).1 σ H Q := by
  cases m with
  | plain => exact (den W e hw).1.exc (Nf N0 O) H σ (eraseM ρ) c Q er.fr er.ev h k
  | pure =>
    rcases bind_exc (show (evE e ρ).bind _ = .exc c from h) with h1 | ⟨u, h1, h2⟩
    · exact (den W e hw).1.exc N0 H σ ρ c Q er.fr0 er.ev0 h1 k
    · split at h2 <;> exact nomatch h2
  | fresh =>
    rcases bind_exc (show (evE e ρ).bind _ = .exc c from h) with h1 | ⟨u, h1, h2⟩
    · exact (den W e hw).1.exc N0 H σ ρ c Q er.fr0 er.ev0 h1 k
    · cases u with
      | lst xs =>
        have h3 : (if (freshTop e && xs.all Val.pure) = true then Res.ok (Val.lst xs) else .stuck) = .exc c := h2
        split at h3 <;> exact nomatch h3
      | _ => exact nomatch h2
  | call =>
    match e, hw, h with
    | .call x F es, hw, h =>
      show tCallS (PSp K mg F) (WE W) (rdEs K mg W es) σ H Q
      rcases bind_exc (show (evEs es (eraseM ρ)).bind _ = .exc c from h) with h1 | ⟨us, h1, h2⟩
      · exact (dens W es hw).exc (Nf N0 O) H σ (eraseM ρ) c _ er.fr er.ev h1 k
      · split at h2
        · rename_i hp
          refine (dens W es hw).ok (Nf N0 O) H σ (eraseM ρ) us _ er.fr er.ev h1 fun xs H1 s1 r1 => ?_
          rcases bind_exc h2 with h3 | ⟨u, h3, h4⟩
          · exact ⟨fun a => H1 a = none, us, fun a ha => ha, r1.ofPure hp, .inr ⟨c, h3, fun C H' s2 m => k C H' (s1.trans s2) m⟩⟩
          · exfalso
            cases u with
            | lst ws =>
              have h5 : (if Val.pures ws = true then Res.ok (Val.lst ws) else .stuck) = .exc c := h4
              split at h5 <;> exact nomatch h5
            | _ => exact nomatch h4
        · exact nomatch h2
theorem env_names {Q : St → Hp → Prop} : ∀ {is : List Nat} {xs : List V} {ws : List Val} {σ : St} {ρ ρ' : Env}, EnvR K N0 H0 O H σ ρ → Reps K (Nf N0 O) H xs ws → bindAll ρ is ws = some ρ' →
    (∀ σ2, EnvR K N0 H0 O H σ2 ρ' → Q σ2 H) → gNames is xs σ H Q
  | [], _, _, σ, ρ, ρ', e, .nil, h, k => by
    cases h
    exact ⟨rfl, k σ e⟩
  | i :: is, _, _, σ, ρ, ρ', e, @Reps.cons _ _ _ v vs w ws r t, h, k => ⟨v, vs, rfl, env_names (e.set r) t h k⟩
  | [], _, _, σ, ρ, ρ', e, .cons _ _, h, k => nomatch h
  | _ :: _, _, _, σ, ρ, ρ', e, .nil, h, k => nomatch h
theorem bindAll_len {ρ' : Env} : ∀ {is : List Nat} {ws : List Val} {ρ : Env}, bindAll ρ is ws = some ρ' → ws.length = is.length
  | [], [], _, _ => rfl
  | [], _ :: _, _, h => nomatch h
  | _ :: _, [], _, h => nomatch h
  | _ :: is, _ :: ws, _, h => congrArg (· + 1) (bindAll_len (is := is) (ws := ws) h)
theorem env_tg {tg : Tg} {x : V} {w : Val} {ρ' : Env} {Q : St → Hp → Prop} (e : EnvR K N0 H0 O H σ ρ) (r : Rep K (Nf N0 O) H x w) (h : bindT tg w ρ = some ρ')
    (k : ∀ σ2, EnvR K N0 H0 O H σ2 ρ' → Q σ2 H) : rdTg K tg x σ H Q := by
  induction tg generalizing x w σ ρ ρ' Q with
  | name i =>
    cases h
    exact k _ (e.set r)
  | tup is =>
    cases r with
    | @tup a xs ws h1 hl r => exact ⟨a, xs, rfl, SqT.of h1, by rw [r.length]; exact bindAll_len h, env_names e r h k⟩
    | _ => exact nomatch h
  | pair a b iha ihb =>
    cases r with
    | @tup p xs ws h1 hl r =>
      match ws, r, h with
      | [u, v], .cons ru (.cons rv .nil), h =>
        obtain ⟨ρ1, e1, h⟩ := Option.bind_eq_some_iff.mp (show (bindT a u ρ).bind (fun ρ' => bindT b v ρ') = some ρ' from h)
        refine ⟨p, _, rfl, SqT.of h1, rfl, _, _, rfl, ?_⟩
        refine iha e ru e1 fun σ1 e2 => ⟨_, _, rfl, ?_⟩
        exact ihb e2 rv h fun σ2 e3 => ⟨rfl, k σ2 e3⟩
    | _ => exact nomatch h
/-- a, b, .. = a tuple or a list -/
def gAny (K : PySem.W.Frag) (n : Nat) (t : TGs) : TG := fun v σ H Q => gTup K n t v σ H Q ∨ gLst K n t v σ H Q
theorem env_any {is : List Nat} {x : V} {w : Val} {ws : List Val} {ρ' : Env} {Q : St → Hp → Prop} (e : EnvR K N0 H0 O H σ ρ) (r : Rep K (Nf N0 O) H x w) (hu : unpV w = some ws) (h : bindAll ρ is ws = some ρ')
    (k : ∀ σ2, EnvR K N0 H0 O H σ2 ρ' → Q σ2 H) : gAny K is.length (gNames is) x σ H Q := by
  cases r with
  | @tup a xs ws' h1 hl r =>
    cases hu
    exact .inl ⟨a, xs, rfl, SqT.of h1, by rw [r.length]; exact bindAll_len h, env_names e r h k⟩
  | @lst a xs ws' n h1 hl r =>
    cases hu
    exact .inr ⟨a, xs, rfl, SqL.of h1, by rw [r.length]; exact bindAll_len h, env_names e r h k⟩
  | _ => exact nomatch hu
inductive Inl (K : PySem.W.Frag) (N : Addr → Prop) (H : Hp) : List Addr → List (List Val) → Prop where
  | nil : Inl K N H [] []
  | cons {b : Addr} {xs : List V} {ws : List Val} {as : List Addr} {wss : List (List Val)} (h : H b = some (.lst xs)) (hl : ws.length ≤ cap) (r : Reps K N H xs ws) (t : Inl K N H as wss) : Inl K N H (b :: as) (ws :: wss)
theorem Inl.keep {N N' : Addr → Prop} {H H' : Hp} (s : Same H H') (hn : ∀ a, N a → H a ≠ none → N' a) : ∀ {as : List Addr} {wss : List (List Val)}, Inl K N H as wss → Inl K N' H' as wss
  | _, _, .nil => .nil
  | _, _, .cons h hl r t => .cons (s _ _ h) hl (r.keep hn (.of s)) (t.keep s hn)
theorem Inl.upd' {N : Addr → Prop} {H : Hp} {D : Addr} {o : HO} {acc : List V} (hD : H D = some (.lst acc)) (nD : ¬ N D) : ∀ {as : List Addr} {wss : List (List Val)}, D ∉ as → Inl K N H as wss → Inl K N (upd H D o) as wss
  | _, _, _, .nil => .nil
  | b :: as, _, hm, .cons h hl r t => by
    rw [List.mem_cons, not_or] at hm
    refine .cons ?_ hl (r.keep (fun _ n _ => n) fun a x ha hx => ?_) (t.upd' hD nD hm.2)
    · rw [upd_ne (Ne.symm hm.1)]
      exact h
    · have hne : a ≠ D := fun z => by
        subst z
        rcases hx with hx | hx
        · exact nD hx
        · rw [hD] at ha
          cases ha
          exact hx
      rw [upd_ne hne]
      exact ha
theorem Inl.snoc {N : Addr → Prop} {H : Hp} {b : Addr} {xs : List V} {ws : List Val} (h : H b = some (.lst xs)) (hl : ws.length ≤ cap) (r : Reps K N H xs ws) : ∀ {as : List Addr} {wss : List (List Val)}, Inl K N H as wss → Inl K N H (as ++ [b]) (wss ++ [ws])
  | _, _, .nil => .cons h hl r .nil
  | _, _, .cons h' hl' r' t => .cons h' hl' r' (t.snoc h hl r)
theorem Inl.live {N : Addr → Prop} {H : Hp} : ∀ {as : List Addr} {wss : List (List Val)}, Inl K N H as wss → ∀ b ∈ as, H b ≠ none
  | _, _, .nil, _, h => absurd h (List.not_mem_nil)
  | _, _, .cons h _ _ t, b, hb => by
    rcases List.mem_cons.mp hb with z | z
    · rw [z]
      exact some_ne h
    · exact t.live b z
theorem Inl.length {N : Addr → Prop} {H : Hp} : ∀ {as : List Addr} {wss : List (List Val)}, Inl K N H as wss → as.length = wss.length
  | _, _, .nil => rfl
  | _, _, .cons _ _ _ t => congrArg (· + 1) t.length
theorem lstsOf_eq : ∀ {vs : List Val} {wss : List (List Val)}, lstsOf vs = some wss → vs = wss.map .lst
  | [], _, h => by
    cases h
    rfl
  | .lst xs :: r, _, h => by
    simp only [lstsOf] at h
    cases e : lstsOf r with
    | none =>
      rw [e] at h
      cases h
    | some l =>
      rw [e] at h
      cases h
      rw [lstsOf_eq e]
      rfl
  | .non :: _, _, h => nomatch h
  | .bool _ :: _, _, h => nomatch h
  | .int _ :: _, _, h => nomatch h
  | .str _ :: _, _, h => nomatch h
  | .tup _ :: _, _, h => nomatch h
  | .scr _ :: _, _, h => nomatch h
  | .dct _ _ _ :: _, _, h => nomatch h
  | .exc _ :: _, _, h => nomatch h
theorem comp_fresh {W : WX} {wi : TI} {ds : Env → Res (List Val)} {tt : TT} {te : TE} {dc de : Env → Res Val} {tg : Tg} {own : List Nat} (hs : DenS K mg W wi ds) (hc : DenT K mg W0 tt dc) (he : Den K mg W0 te true de) (htg : tgIn tg own = true)
    {N : Addr → Prop} {H : Hp} {σ : St} {ρ : Env} {items vs : List Val} {wss : List (List Val)} {Q : VK} (f : Fr H N) (e : Ev K N H σ ρ) (e1 : ds ρ = .ok items) (e2 : compL (compF tg own dc de ρ) items = .ok vs) (hl2 : lstsOf vs = some wss)
    (k : ∀ a as H', Same H H' → H a = none → H' a = some (.lst (as.map .ref)) → as.Nodup → a ∉ as → (∀ b ∈ as, H b = none) → wss.length ≤ cap → Inl K (fun b => N b ∧ b ≠ a ∧ b ∉ as) H' as wss → Q (.ref a) H') : tLc wi (rdTg K tg) tt te own σ H Q := by
  have ev := lstsOf_eq hl2
  refine hs.ok N H σ ρ items _ f e e1 fun J H1 G Y s1 hl wk g0 st D hD => ?_
  have f1 := f.same s1
  refine lc_it wk (fun i H2 => ∃ as wdn wr, H2 D = some (.lst (as.map .ref)) ∧ Inl K (fun b => N b ∧ b ≠ D ∧ b ∉ as) H2 as wdn ∧ compL (compF tg own dc de ρ) (items.drop i) = .ok (wr.map .lst) ∧ wss = wdn ++ wr ∧ Same H1 H2 ∧ as.Nodup ∧ D ∉ as ∧ (∀ b ∈ as, H1 b = none) ∧ as.length ≤ i) ?_ ?_ ?_ ?_
  · exact ⟨[], [], wss, upd_same, .nil, by rw [← ev]; exact e2, rfl, same_upd hD, .nil, List.not_mem_nil, fun b hb => absurd hb List.not_mem_nil, Nat.le_refl _⟩
  · rintro i H2 hi ⟨as, wdn, wr, h1, h2, h3, h4, h5, h6, h7, h8, h9⟩
    exact (st N fun a n _ => n).1 H1 H2 (.of h5) g0
  · rintro i x H2 H3 hi ⟨as, wdn, wr, h1, h2, h3, h4, h5, h6, h7, h8, h9⟩ y
    obtain ⟨N', hN'⟩ : ∃ N' : Addr → Prop, N' = fun b => N b ∧ b ≠ D ∧ b ∉ as := ⟨_, rfl⟩
    have hn : ∀ a, N a → H1 a ≠ none → N' a := fun a ha h0 => by
      rw [hN']
      exact ⟨ha, fun z => h0 (by rw [z]; exact hD), fun z => h0 (h8 a z)⟩
    obtain ⟨stG, stY⟩ := st N' hn
    obtain ⟨w, ew, s3, rw'⟩ := stY i H2 x H3 hi (.of h5) (stG H1 H2 (.of h5) g0) y
    have hlt : i < items.length := hi
    rw [List.drop_eq_getElem_cons hlt] at h3
    have ew2 : items[i] = w := by
      rw [List.getElem?_eq_getElem hlt] at ew
      exact Option.some.inj ew
    rw [ew2] at h3
    obtain ⟨o, ys', eo, ey, er⟩ := compL_cons h3
    have h53 : Same H1 H3 := h5.trans s3
    have ev3 : Ev K N' H3 (L2.wipe σ own) (kill ρ own) := ((e.same s1).wipe own).more hn h53
    have f2 : Fr H2 N' := fun a ha => by
      have h1a : H1 a = none := h5.free ha
      have hne : a ≠ D := fun z => by
        rw [z, h1] at ha
        cases ha
      rw [hN']
      exact ⟨f1 a h1a, hne, fun z => h2.live a z ha⟩
    unfold compF at eo
    split at eo
    · exact nomatch eo
    · rename_i ρ' eb
      obtain ⟨cv, ec, eo1⟩ := bind_ok eo
      obtain ⟨b, eb2, eo2⟩ := asB_ok eo1
      subst eb2
      refine den_tg ev3 rw' eb fun σ2 e2' hw => ⟨by rw [hw own htg, wipe_wipe], ?_⟩
      refine hc.ok N' H3 σ2 ρ' b _ (f2.same s3) e2' ec fun H4 s4 => ?_
      cases b with
      | true =>
        rw [if_pos rfl] at eo2 ⊢
        obtain ⟨v, ev', eo3⟩ := bind_ok eo2
        cases eo3
        have er' : wr.map .lst = v :: ys' := er
        cases wr with
        | nil => exact nomatch er'
        | cons ws wr =>
          cases er'
          refine he.ok N' H4 σ2 ρ' _ _ ((f2.same s3).same s4) (e2'.same s4) ev' fun z H5 s5 r5 nw => ?_
          have s25 : Same H2 H5 := (s3.trans s4).trans s5
          cases r5 with
          | @lst b xs _ nb hb hlb rb =>
            obtain ⟨b0, xs', hb', rb'⟩ := nw rfl b ws rfl rfl
            rw [hb] at hb'
            cases hb'
            have hbD : b ≠ D := by
              rw [hN'] at nb
              exact nb.2.1
            have hbas : b ∉ as := by
              rw [hN'] at nb
              exact nb.2.2
            have hD5 := s25 _ _ h1
            refine ⟨as.map .ref, hD5, ?_, ?_⟩
            · rw [List.length_map]
              exact Nat.lt_of_lt_of_le (Nat.lt_of_le_of_lt h9 hlt) (Nat.le_trans hl (by decide))
            · refine ⟨as ++ [b], wdn ++ [ws], wr, ?_, ?_, ey, ?_, ?_, ?_, ?_, ?_, ?_⟩
              · rw [upd_same, List.map_append]
                rfl
              · have i5 : Inl K (fun c => N c ∧ c ≠ D ∧ c ∉ as ++ [b]) H5 as wdn := by
                  have i4 : Inl K N' H4 as wdn := by
                    rw [hN']
                    exact h2.keep (s3.trans s4) fun _ n _ => n
                  refine i4.keep s5 fun c hc h0 => ?_
                  rw [hN'] at hc
                  exact ⟨hc.1, hc.2.1, fun q => by
                    rcases List.mem_append.mp q with q | q
                    · exact hc.2.2 q
                    · rw [List.mem_singleton] at q
                      subst q
                      exact h0 b0⟩
                refine (i5.snoc hb hlb (rb'.more fun c hc => ?_)).upd' hD5 (fun q => q.2.1 rfl) ?_
                · rw [hN'] at hc
                  exact ⟨hc.1.1, hc.1.2.1, fun q => by
                    rcases List.mem_append.mp q with q | q
                    · exact hc.1.2.2 q
                    · rw [List.mem_singleton] at q
                      exact hc.2 q⟩
                · intro q
                  rcases List.mem_append.mp q with q | q
                  · exact h7 q
                  · rw [List.mem_singleton] at q
                    exact hbD q.symm
              · rw [h4, List.append_assoc]
                rfl
              · intro a o ha
                have hne : a ≠ D := fun z => by
                  rw [z, hD] at ha
                  exact nomatch ha
                rw [upd_ne hne]
                exact s25 _ _ (h5 _ _ ha)
              · rw [List.nodup_append]
                exact ⟨h6, by simp, fun a ha c hc => by
                  rw [List.mem_singleton] at hc
                  rw [hc]
                  exact fun z => hbas (by rw [← z]; exact ha)⟩
              · intro q
                rcases List.mem_append.mp q with q | q
                · exact h7 q
                · rw [List.mem_singleton] at q
                  exact hbD q.symm
              · intro c hc
                rcases List.mem_append.mp hc with q | q
                · exact h8 c q
                · rw [List.mem_singleton] at q
                  rw [q]
                  exact h5.free ((s3.trans s4).free b0)
              · rw [List.length_append]
                simp only [List.length_cons, List.length_nil]
                omega
      | false =>
        rw [if_neg Bool.false_ne_true] at eo2 ⊢
        cases eo2
        have s24 : Same H2 H4 := s3.trans s4
        have er' : wr.map .lst = ys' := er
        rw [← er'] at ey
        exact ⟨as, wdn, wr, s24 _ _ h1, h2.keep s24 fun _ n _ => n, ey, h4, h5.trans s24, h6, h7, h8, by omega⟩
  · rintro H2 ⟨as, wdn, wr, h1, h2, h3, h4, h5, h6, h7, h8, h9⟩
    rw [List.drop_length] at h3
    have e3 : wr.map Val.lst = [] := (Res.ok.inj (show Res.ok ([] : List Val) = .ok (wr.map .lst) from h3)).symm
    have e4 : wr = [] := List.map_eq_nil_iff.mp e3
    subst e4
    rw [List.append_nil] at h4
    subst h4
    refine k D as H2 (s1.trans h5) (s1.free hD) h1 h6 h7 (fun b hb => s1.free (h8 b hb)) ?_ h2
    have h10 := compL_len e2
    rw [ev, List.length_map] at h10
    omega
end
end Lh
set_option Elab.async false
set_option linter.all false
set_option maxRecDepth 100000
set_option maxHeartbeats 8000000
namespace Lh
open PySem L2
/-- an argument put in at its place -/
def insX : Nat → E → Es → Es
  | 0, x, es => .cons x es
  | j + 1, x, .cons e es => .cons e (insX j x es)
  | _ + 1, x, .nil => .cons x .nil
def rdMC (K : PySem.W.Frag) (mg : Str → Option Value) (W : WX) (c : MC) : TE := match c.k with
  | .meth => L2H.tMethH (C0 K) c.m (PSpM K mg 0 c.F) (WE W) (tVar c.i) (rdEs K mg W c.es)
  | .fn => tCallS (PSpM K mg c.j c.F) (WE W) (rdEs K mg W (insX c.j (.var c.i) c.es))
def rdTM (K : PySem.W.Frag) (mg : Str → Option Value) (W : WX) (q : Eo) (c : MC) : TT := match q with
  | .no => tB (rdMC K mg W c)
  | .yes e => tAnd (rd K mg W e).2 (tB (rdMC K mg W c))
def tNever' : XK := fun _ _ _ => False
mutual
def rdS (K : PySem.W.Frag) (mg : Str → Option Value) (W : WX) : S → TS
  | .asg _ i e => tAsg (rd K mg W e).1 (gName i)
  | .own _ i e => tAsg (rd K mg W e).1 (gName i)
  | .own2 i e => tAsg (rd K mg W e).1 (gName i)
  | .unp _ is e => tAsg (rd K mg W e).1 (gAny K is.length (gNames is))
  | .par is es => (match is with
    | [i, j] => tPar i j (rdEs K mg W es)
    | [i, j, l] => tPar3 i j l (rdEs K mg W es)
    | _ => tNever)
  | .app _ i e => tDrop (tBM K "list" rAppend (tVar i) (tCons (rd K mg W e).1 tNil))
  | .appOwn i j => tDrop (tBM K "list" rAppend (tVar i) (tCons (tVar j) tNil))
  | .ext _ i e => tDrop (tBM K "list" rExtend (tVar i) (tCons (rd K mg W e).1 tNil))
  | .odict i k => tAsg (rd K mg W (.dict k)).1 (gName i)
  | .setd _ i ke e => tAsg (rd K mg W e).1 (gSub (tVar i) (rd K mg W ke).1 rSetD)
  | .set _ i ie e => tAsg (rd K mg W e).1 (gSub (tVar i) (rd K mg W ie).1 rSetL)
  | .set2 i ie je e => tAsg (rd K mg W e).1 (gSub (tOp (rIdx K) (tVar i) (rd K mg W ie).1) (rd K mg W je).1 rSetL)
  | .compT d elt tg src own => (match d with
    | some i => tAsg (rdX K mg W elt tg src own) (gName i)
    | none => tRet (rdX K mg W elt tg src own))
  | .forO tg i c _ => tFor (iSeq K (tVar i)) (rdTg K tg) (tSeq (tDrop (rdMC K mg W c)) tNext)
  | .appM i e => tDrop (tBM K "list" rAppend (tVar i) (tCons (rd K mg W e).1 tNil))
  | .pop i j e => (match e with
    | .no => tAsg (tBM0 K "list" rPop (tVar j)) (gName i)
    | .yes e => tAsg (tBM K "list" rPopAt (tVar j) (tCons (rd K mg W e).1 tNil)) (gName i))
  | .appPop i j e => tDrop (tBM K "list" rAppend (tVar i) (tCons (tBM K "list" rPopAt (tVar j) (tCons (rd K mg W e).1 tNil)) tNil))
  | .compPop i j e tg src => tAsg (tLc (rdSrc K mg W src) (gName tg) tYes (tBM K "list" rPopAt (tVar j) (tCons (rd K mg W0 e).1 tNil)) [tg]) (gName i)
  | .ret e => tRet (rd K mg W e).1
  | .raise c => fun _ σ H => ∀ C, mg c = some (.ref C) → W (.ref C) none σ H
  | .expr e => tDrop (rd K mg W e).1
  | .pass => tNext
  | .dead => fun _ _ _ => False
  | .revN i => tDrop (tBM0 K "list" rReverse (tVar i))
  | .deepC i _ F es => tAsg (tCallS (PSp K mg F) (WE W) (rdEs K mg W es)) (gName i)
  | .copyD j _ F i => tAsg (tCallS (PSpZ (PSp K mg F)) (WE W) (tCons (tVar i) tNil)) (gName j)
  | .spoilD _ d i => tDrop (tCallS (PSpS K d) (WE W) (tCons (tVar i) tNil))
  | .spoilE _ e => tDrop (tCallS (PSpS K 6) (WE W) (tCons (rd K mg W e).1 tNil))
  | .newK2 d1 d2 F es1 es2 => tPar d1 d2 (tCons (tMake (C0 K) (PSpM K mg 0 F) [] tNever' (rdEs K mg W es1)) (tCons (tMake (C0 K) (PSpM K mg 0 F) [] tNever' (rdEs K mg W es2)) tNil))
  | .brk => tBreak
  | .ite c a b => tIfS (rd K mg W c).2 (rdSs K mg W a) (rdSs K mg W b)
  | .for tg src body _ => tFor (rdSrc K mg W src) (rdTg K tg) (rdSs K mg W body)
  | .while c body _ => tWhile (rd K mg W c).2 (rdSs K mg W body)
  | .forPop tg a j c body _ => tFor (iSeq K (tOp (rIdx K) (tOp (rIdx K) (rd K mg W a).1 (tBM0 K "list" rPop (tVar j))) (tC (.int c)))) (rdTg K tg) (rdSs K mg W body)
  | .forM tg e body _ => tFor (iSeq K (rd K mg W e).1) (rdTg K tg) (rdSs K mg W body)
  | .forR tg a body _ => tFor (rdSrc K mg W (.range1 a)) (rdTg K tg) (rdSs K mg W body)
  | .try1 body c e j => fun D σ H => XOk K mg → ∀ C, mg c = some (.ref C) → rdSs K mg (wK K (.ref C) e (fun _ _ _ => tSeq (tAsg (tVar e) (gName j)) tNext) D) body D σ H
  | .frz _ => tNext
  | .retM e => tRet (rd K mg W e).1
  | .setA i f e => fun D σ H => AttrOk K f → sFld K (tVar i) (rd K mg W e).1 f D σ H
  | .callM d c => (match d with
    | none => tDrop (rdMC K mg W c)
    | some d => tAsg (rdMC K mg W c) (gName d))
  | .iteM q c a b => tIfS (rdTM K mg W q c) (rdSs K mg W a) (rdSs K mg W b)
  | .callM2 d q c1 c2 => tAsg (tIf (rd K mg W q).2 (rdMC K mg W c1) (rdMC K mg W c2)) (gName d)
  | .newK d F es => tAsg (tMake (C0 K) (PSpM K mg 0 F) [] tNever' (rdEs K mg W es)) (gName d)
  | .setdMax i ke tg src _ j F es => tAsg (tCKw (rMaxD K) (tCons (tLc (rdSrc K mg W (.seq src)) (gName tg) tYes (tOp (rBin K .add) (tC (.int 1)) (tCallS (PSpM K mg j F) (WE W0) (rdEs K mg W0 (insX j (.var i) es)))) [tg]) tNil) (tCons (tC (.int 0)) tNil)) (gSub (tVar i) (rd K mg W ke).1 rSetD)
  | .retD _ j F es => tRet (tCallS (PSpM K mg j F) (WE W) (rdEs K mg W (insX j (.dict true) es)))
def rdSs (K : PySem.W.Frag) (mg : Str → Option Value) (W : WX) : Ss → TS
  | .nil => tNext
  | .cons s ss => tSeq (rdS K mg W s) (rdSs K mg W ss)
end
def fresh2b : E → Bool
  | .lst .nil => true
  | .comp elt _ _ _ _ => freshTop elt
  | _ => false
mutual
def wfS : S → Bool
  | .asg _ _ e => wf e
  | .own _ _ e => wf e
  | .own2 _ e => wf e && fresh2b e
  | .unp _ _ e => wf e
  | .par is es => wfs es && (is.length == 2 || is.length == 3)
  | .app _ _ e => wf e
  | .appOwn _ _ => true
  | .ext _ _ e => wf e
  | .odict _ _ => true
  | .setd _ _ ke e => wf e && wf ke
  | .set _ _ ie e => wf e && wf ie
  | .set2 _ ie je e => wf e && wf ie && wf je
  | .forO _ _ c _ => wfs c.es
  | .compT _ elt tg src own => wf elt && (wfsrc src && tgIn tg own)
  | .appM _ e => wf e
  | .pop _ _ e => wfo e
  | .appPop _ _ e => wf e
  | .compPop _ _ e _ src => wf e && wfsrc src
  | .ret e => wf e
  | .raise _ => true
  | .expr e => wf e
  | .pass => true
  | .dead => true
  | .revN _ => true
  | .deepC _ _ _ es => wfs es
  | .copyD j _ _ i => decide (i ≠ j)
  | .spoilD _ _ _ => true
  | .spoilE _ e => wf e
  | .newK2 _ _ _ es1 es2 => wfs es1 && wfs es2
  | .brk => true
  | .ite c a b => wf c && tst c && wfSs a && wfSs b
  | .for _ src body _ => wfsrc src && wfSs body
  | .while c body _ => wf c && tst c && wfSs body
  | .forPop _ a _ _ body _ => wf a && wfSs body
  | .forM _ e body _ => wf e && wfSs body
  | .forR _ a body _ => wf a && wfSs body
  | .try1 body _ _ _ => wfSs body
  | .frz _ => true
  | .retM e => wf e
  | .setA _ _ e => wf e
  | .callM _ c => wfs c.es
  | .iteM q c a b => wfc q && wfs c.es && wfSs a && wfSs b
  | .callM2 _ q c1 c2 => wf q && tst q && wfs c1.es && wfs c2.es
  | .newK _ _ es => wfs es
  | .setdMax _ ke _ src _ _ _ es => wf ke && wf src && wfs es
  | .retD _ _ _ es => wfs es
def wfSs : Ss → Bool
  | .nil => true
  | .cons s ss => wfS s && wfSs ss
end
/-- the heap behind -/
def Ext (N0 : Addr → Prop) (O : Own) (H : Hp) (O' : Own) (H' : Hp) : Prop := ∃ is, Frm N0 is O H O' H'
theorem Ext.trans {N0 : Addr → Prop} {O O1 O2 : Own} {H H1 H2 : Hp} (a : Ext N0 O H O1 H1) (b : Ext N0 O1 H1 O2 H2) : Ext N0 O H O2 H2 := by
  obtain ⟨is, a⟩ := a
  obtain ⟨js, b⟩ := b
  exact ⟨_, a.trans b⟩
theorem Ext.same {N0 : Addr → Prop} {O : Own} {H H' : Hp} (s : Same H H') : Ext N0 O H O H' := ⟨[], .of_same s⟩
theorem Ext.refl {N0 : Addr → Prop} {O : Own} {H : Hp} : Ext N0 O H O H := .same (Same.refl H)
/-- the end takes what a statement comes to -/
def Acc (K : PySem.W.Frag) (mg : Str → Option Value) (W : WX) (N0 : Addr → Prop) (H0 : Hp) (O : Own) (H : Hp) (D : Ends) : Out → Prop
  | .nx ρ' => ∀ O' H' σ', EnvR K N0 H0 O' H' σ' ρ' → Ext N0 O H O' H' → D.nx σ' H'
  | .ret v => ∀ z H', Same H0 H' → Rep K N0 H' z v → D.rt z H'
  | .brk ρ' => ∀ O' H' σ', EnvR K N0 H0 O' H' σ' ρ' → Ext N0 O H O' H' → D.bk σ' H'
  | .exc c ρ' => ∀ C O' H' σ', EnvR K N0 H0 O' H' σ' ρ' → Ext N0 O H O' H' → mg c = some (.ref C) → W (.ref C) none σ' H'
  | .stuck => False
  | .retM v ρ' => ∀ z O' H' σ', EnvR K N0 H0 O' H' σ' ρ' → v.pure = true → Rep K (Nf N0 O') H' z v → D.rt z H'
section
variable {K : PySem.W.Frag} {mg : Str → Option Value} {W : WX} {N0 : Addr → Prop} {H0 : Hp} {O : Own} {H : Hp} {σ : St} {ρ : Env} {D : Ends}
theorem Acc.mono {O1 : Own} {H1 : Hp} (x : Ext N0 O H O1 H1) : ∀ {o : Out}, Acc K mg W N0 H0 O H D o → Acc K mg W N0 H0 O1 H1 D o
  | .nx _, h => fun O' H' σ' e q => h O' H' σ' e (x.trans q)
  | .ret _, h => h
  | .brk _, h => fun O' H' σ' e q => h O' H' σ' e (x.trans q)
  | .exc _ _, h => fun C O' H' σ' e q m => h C O' H' σ' e (x.trans q) m
  | .stuck, h => h
  | .retM _ _, h => h
theorem Acc.excW {c : Str} (e : EnvR K N0 H0 O H σ ρ) (h : Acc K mg W N0 H0 O H D (.exc c ρ)) : ExcW mg W σ H c := fun C H' s m => h C O H' σ (e.same s) (.same s) m
/-- the value of an expression, then on -/
theorem acc_store {m : Md} {e : E} {f : Val → Out} {Q : VK} (hw : wf e = true) (er : EnvR K N0 H0 O H σ ρ) (h : Acc K mg W N0 H0 O H D ((storeV m e ρ).out ρ f))
    (k : ∀ v z H', Same H H' → Rep K (Nf N0 O) H' z v → (frM m e = true → ∀ a ws, z = .ref a → v = .lst ws → NewL K (Nf N0 O) H H' a ws) → Acc K mg W N0 H0 O H D (f v) → Q z H') : (rd K mg W e).1 σ H Q := by
  cases hv : storeV m e ρ with
  | ok v =>
    rw [hv] at h
    exact store_ok hw er hv fun z H' s r fr => k v z H' s r fr h
  | exc c =>
    rw [hv] at h
    exact store_exc hw er hv (h.excW er)
  | stuck =>
    rw [hv] at h
    exact h.elim
theorem acc_ev {e : E} {f : Val → Out} {Q : VK} (hw : wf e = true) (er : EnvR K N0 H0 O H σ ρ) (h : Acc K mg W N0 H0 O H D ((evE e ρ).out ρ f))
    (k : ∀ v z H', Same H H' → Rep K N0 H' z v → Acc K mg W N0 H0 O H' D (f v) → Q z H') : (rd K mg W e).1 σ H Q := by
  cases hv : evE e ρ with
  | ok v =>
    rw [hv] at h
    exact (den W e hw).1.ok N0 H σ ρ v Q er.fr0 er.ev0 hv fun z H' s r _ => k v z H' s r (h.mono (.same s))
  | exc c =>
    rw [hv] at h
    exact (den W e hw).1.exc N0 H σ ρ c Q er.fr0 er.ev0 hv (h.excW er)
  | stuck =>
    rw [hv] at h
    exact h.elim
theorem acc_int {e : E} {f : Int → Out} {Q : VK} (hw : wf e = true) (er : EnvR K N0 H0 O H σ ρ) (h : Acc K mg W N0 H0 O H D ((evE e ρ).out ρ fun w => asO (intOf w) f))
    (k : ∀ i H', Same H H' → Acc K mg W N0 H0 O H' D (f i) → Q (.int i) H') : (rd K mg W e).1 σ H Q :=
  acc_ev hw er h fun v z H' s r a => by
    cases r with
    | int i => exact k i H' s a
    | _ => exact a.elim
theorem acc_test {e : E} {f : Bool → Out} {Q : Bool → Hp → Prop} (hw : wf e = true) (ht : tst e = true) (er : EnvR K N0 H0 O H σ ρ) (h : Acc K mg W N0 H0 O H D ((evE e ρ).out ρ fun w => asO (boolOf w) f))
    (k : ∀ b H', Same H H' → Acc K mg W N0 H0 O H' D (f b) → Q b H') : (rd K mg W e).2 σ H Q := by
  cases hv : evE e ρ with
  | ok v =>
    rw [hv] at h
    cases v with
    | bool b => exact ((den W e hw).2 ht).ok N0 H σ ρ b Q er.fr0 er.ev0 hv fun H' s => k b H' s (h.mono (.same s))
    | _ => exact h.elim
  | exc c =>
    rw [hv] at h
    exact ((den W e hw).2 ht).exc N0 H σ ρ c Q er.fr0 er.ev0 hv (h.excW er)
  | stuck =>
    rw [hv] at h
    exact h.elim
theorem acc_src {s : Src} {f : List Val → Out} {R : It → Hp → Prop} (hw : wfsrc s = true) (er : EnvR K N0 H0 O H σ ρ) (h : Acc K mg W N0 H0 O H D ((evSrc s (eraseM ρ)).out ρ f))
    (k : ∀ items J H' G Y, Same H H' → items.length ≤ cap → L2.Walk J items.length G Y → G H' → Stays K (Nf N0 O) H' items G Y → Acc K mg W N0 H0 O H' D (f items) → R J H') : rdSrc K mg W s σ H R := by
  cases hv : evSrc s (eraseM ρ) with
  | ok items =>
    rw [hv] at h
    exact (densrc W s hw).ok (Nf N0 O) H σ (eraseM ρ) items R er.fr er.ev hv fun J H' G Y s hl wk g st => k items J H' G Y s hl wk g st (h.mono (.same s))
  | exc c =>
    rw [hv] at h
    exact (densrc W s hw).exc (Nf N0 O) H σ (eraseM ρ) c R er.fr er.ev hv (h.excW er)
  | stuck =>
    rw [hv] at h
    exact h.elim
/-- an own list, by its slot -/
theorem own_at {i : Nat} {vs : List Val} (er : EnvR K N0 H0 O H σ ρ) (h : ownOf ρ[i]? = some vs) : ∃ a xs, σ[i]? = some (some (.ref a)) ∧ H a = some (.lst xs) ∧ O a = some i ∧ vs.length ≤ cap ∧ Reps K (Nf N0 O) H xs vs ∧ ρ[i]? = some (.own vs) := by
  cases q : ρ[i]? with
  | none =>
    rw [q] at h
    cases h
  | some s =>
    rw [q] at h
    have r := er.at' i s q
    generalize hx : σ[i]? = x at r
    cases r with
    | own h1 o hl r =>
      cases h
      exact ⟨_, _, rfl, h1, o, hl, r, rfl⟩
    | _ => exact nomatch h
theorem own2_at {i : Nat} {wss : List (List Val)} (er : EnvR K N0 H0 O H σ ρ) (h : own2Of ρ[i]? = some wss) : ∃ a as, σ[i]? = some (some (.ref a)) ∧ H a = some (.lst (as.map .ref)) ∧ O a = some i ∧ wss.length ≤ cap ∧ as.Nodup ∧ a ∉ as ∧ Inn K N0 O H i as wss ∧ ρ[i]? = some (.own2 wss) := by
  cases q : ρ[i]? with
  | none =>
    rw [q] at h
    cases h
  | some s =>
    rw [q] at h
    have r := er.at' i s q
    generalize hx : σ[i]? = x at r
    cases r with
    | own2 h1 o hl nd na t =>
      cases h
      exact ⟨_, _, rfl, h1, o, hl, nd, na, t, rfl⟩
    | _ => exact nomatch h
theorem acc_some {α : Type} {o : Option α} {f : α → Out} (h : Acc K mg W N0 H0 O H D (asO o f)) : ∃ a, o = some a ∧ Acc K mg W N0 H0 O H D (f a) := by
  cases o with
  | none => exact h.elim
  | some a => exact ⟨a, rfl, h⟩
/-- the slot of an own list told anew -/
theorem EnvR.write {i : Nat} {a : Addr} {xs ys : List V} {vs ws : List Val} (er : EnvR K N0 H0 O H σ ρ) (hs : σ[i]? = some (some (.ref a))) (hr : ρ[i]? = some (.own vs)) (h : H a = some (.lst xs)) (o : O a = some i) (hl : ws.length ≤ cap) (r : Reps K (Nf N0 O) H ys ws) :
    EnvR K N0 H0 O (upd H a (.lst ys)) σ (ρ.set i (.own ws)) ∧ Ext N0 O H O (upd H a (.lst ys)) := by
  have f : Frm N0 [i] O H O (upd H a (.lst ys)) := .write o h (fun z => z)
  refine ⟨er.frm f (fun b j ob => ⟨(er.o0 b j ob).1, f.l b (er.o0 b j ob).2⟩) (by rw [List.length_set]; exact er.len) (fun j s hj => ?_) (fun b ob hb => ?_), [i], f⟩
  · rw [List.getElem?_set] at hj
    by_cases q : i = j
    · subst q
      rw [if_pos rfl] at hj
      split at hj
      · cases hj
        rw [hs]
        exact .inr (.own upd_same o hl (f.keeps r))
      · cases hj
    · rw [if_neg q] at hj
      exact .inl ⟨by rw [List.mem_singleton]; exact fun z => q z.symm, hj, rfl⟩
  · have hne : b ≠ a := fun z => by
      rw [z, (er.o0 a i o).1] at hb
      cases hb
    rw [upd_ne hne]
    exact er.s0 b ob hb
theorem Inn.get {i : Nat} : ∀ {as : List Addr} {wss : List (List Val)} {j : Nat} {ws : List Val}, Inn K N0 O H i as wss → wss[j]? = some ws → ∃ b xs, as[j]? = some b ∧ H b = some (.lst xs) ∧ O b = some i ∧ ws.length ≤ cap ∧ Reps K (Nf N0 O) H xs ws
  | _, _, _, _, .nil, h => by simp at h
  | _, _, 0, _, .cons h o hl r t, e => by
    simp at e
    subst e
    exact ⟨_, _, rfl, h, o, hl, r⟩
  | _, _, j + 1, _, .cons h o hl r t, e => by
    obtain ⟨b, xs, q⟩ := Inn.get (j := j) t (by simpa using e)
    exact ⟨b, xs, by simpa using q⟩
theorem Inn.length {i : Nat} : ∀ {as : List Addr} {wss : List (List Val)}, Inn K N0 O H i as wss → as.length = wss.length
  | _, _, .nil => rfl
  | _, _, .cons _ _ _ _ t => congrArg (· + 1) t.length
theorem Inn.far {i : Nat} {b : Addr} {o : HO} (f : Frm N0 [i] O H O (upd H b o)) : ∀ {as : List Addr} {wss : List (List Val)}, b ∉ as → Inn K N0 O H i as wss → Inn K N0 O (upd H b o) i as wss
  | _, _, _, .nil => .nil
  | _, _, hm, .cons h o hl r t => by
    rw [List.mem_cons, not_or] at hm
    exact .cons (by rw [upd_ne (Ne.symm hm.1)]; exact h) o hl (f.keeps r) (t.far f hm.2)
theorem Inn.set {i : Nat} {b : Addr} {ys : List V} {us : List Val} (f : Frm N0 [i] O H O (upd H b (.lst ys))) (ob : O b = some i) (hu : us.length ≤ cap) (ru : Reps K (Nf N0 O) H ys us) {as : List Addr} {wss : List (List Val)} (t : Inn K N0 O H i as wss) :
    ∀ {j : Nat}, as.Nodup → as[j]? = some b → Inn K N0 O (upd H b (.lst ys)) i as (wss.set j us) := by
  induction t with
  | nil => exact fun nd e => by simp at e
  | @cons c xs ws as wss h o hl r t ih =>
    intro j nd e
    obtain ⟨n1, n2⟩ := List.nodup_cons.mp nd
    cases j with
    | zero =>
      have e' : c = b := by simpa using e
      subst e'
      exact .cons upd_same o hu (f.keeps ru) (t.far f n1)
    | succ j =>
      have e' : as[j]? = some b := by simpa using e
      have hne : b ≠ c := fun z => n1 (by rw [← z]; exact List.mem_of_getElem? e')
      exact .cons (by rw [upd_ne (Ne.symm hne)]; exact h) o hl (f.keeps r) (ih n2 e')
end
end Lh
set_option Elab.async false
set_option linter.all false
set_option maxRecDepth 100000
set_option maxHeartbeats 8000000
namespace Lh
open L2 (ixN)
open PySem L2
section
variable {K : PySem.W.Frag} {mg : Str → Option Value} {W : WX} {N0 : Addr → Prop} {H0 : Hp} {O : Own} {H : Hp} {σ : St} {ρ : Env} {D : Ends}
theorem seqIndex_ixN {n : Nat} {k : Int} {j : Nat} (h : ixN n k = some j) : seqIndex? k n = some j ∧ (n ≤ cap → -(2 ^ 63) ≤ k ∧ k < 2 ^ 63) := by
  unfold ixN at h
  split at h
  · split at h
    · cases h
      refine ⟨?_, fun hn => by
        have : cap = 100000 := rfl
        omega⟩
      exact seqIndex_of (by assumption) (by omega)
    · cases h
  · split at h
    · cases h
      refine ⟨?_, fun hn => by
        have : cap = 100000 := rfl
        omega⟩
      exact seqIndex_neg (by omega) (by omega)
    · cases h
/-- a new list made the own of a slot -/
theorem EnvR.take {i : Nat} {a : Addr} {H' : Hp} {ws : List Val} (er : EnvR K N0 H0 O H σ ρ) (s : Same H H') (nw : NewL K (Nf N0 O) H H' a ws) (hl : ws.length ≤ cap) :
    EnvR K N0 H0 (setO O a i) H' (σ.set i (some (.ref a))) (ρ.set i (.own ws)) ∧ Ext N0 O H (setO O a i) H' := by
  obtain ⟨hn, xs, h, r⟩ := nw
  have f : Frm N0 [] O H (setO O a i) H' := .take s hn
  refine ⟨er.frm f (fun b j ob => ?_) (by rw [List.length_set, List.length_set]; exact er.len) (fun j t hj => ?_) (er.s0.trans s), [], f⟩
  · by_cases z : b = a
    · subst z
      exact ⟨er.s0.free hn, some_ne h⟩
    · rw [setO_ne z] at ob
      exact ⟨(er.o0 b j ob).1, f.l b (er.o0 b j ob).2⟩
  · rw [List.getElem?_set] at hj ⊢
    by_cases q : i = j
    · subst q
      rw [if_pos rfl] at hj ⊢
      split at hj
      · rename_i hlt
        cases hj
        rw [er.len, if_pos hlt]
        exact .inr (.own h setO_same hl (r.more fun b hb => ⟨hb.1.1, by rw [setO_ne hb.2]; exact hb.1.2⟩))
      · cases hj
    · rw [if_neg q] at hj ⊢
      exact .inl ⟨List.not_mem_nil, hj, rfl⟩
theorem inl_inn {i : Nat} {O' : Own} {H' : Hp} {N : Addr → Prop} {as0 : List Addr} (hN : ∀ b, N b → Nf N0 O' b) (ho : ∀ b ∈ as0, O' b = some i) : ∀ {as : List Addr} {wss : List (List Val)}, (∀ b ∈ as, b ∈ as0) → Inl K N H' as wss → Inn K N0 O' H' i as wss
  | _, _, _, .nil => .nil
  | _, _, hm, .cons h hl r t => .cons h (ho _ (hm _ List.mem_cons_self)) hl (r.more hN) (inl_inn hN ho (fun b hb => hm b (List.mem_cons_of_mem _ hb)) t)
def setOs (O : Own) (as : List Addr) (i : Nat) : Own := fun b => if b ∈ as then some i else O b
theorem setOs_in {O : Own} {as : List Addr} {i : Nat} {b : Addr} (h : b ∈ as) : setOs O as i b = some i := if_pos h
theorem setOs_out {O : Own} {as : List Addr} {i : Nat} {b : Addr} (h : b ∉ as) : setOs O as i b = O b := if_neg h
theorem EnvR.take2 {i : Nat} {a : Addr} {as : List Addr} {H' : Hp} {wss : List (List Val)} (er : EnvR K N0 H0 O H σ ρ) (s : Same H H') (ha : H a = none) (h : H' a = some (.lst (as.map .ref))) (nd : as.Nodup) (na : a ∉ as) (hn : ∀ b ∈ as, H b = none) (hl : wss.length ≤ cap)
    (r : Inl K (fun b => Nf N0 O b ∧ b ≠ a ∧ b ∉ as) H' as wss) :
    EnvR K N0 H0 (setOs O (a :: as) i) H' (σ.set i (some (.ref a))) (ρ.set i (.own2 wss)) ∧ Ext N0 O H (setOs O (a :: as) i) H' := by
  have hn' : ∀ b ∈ a :: as, H b = none := fun b hb => by
    rcases List.mem_cons.mp hb with z | z
    · rw [z]
      exact ha
    · exact hn b z
  have f0 := Frm.of_same (N0 := N0) (O := O) s
  have f : Frm N0 [] O H (setOs O (a :: as) i) H' := by
    refine ⟨f0.k, fun x hx o => ?_, fun x j hj o hx => ?_, f0.l⟩
    · rw [setOs_out fun z => hx (hn' x z)]
      exact o
    · rw [setOs_out fun z => hx (hn' x z)]
      exact f0.j x j hj o hx
  refine ⟨er.frm f (fun b j ob => ?_) (by rw [List.length_set, List.length_set]; exact er.len) (fun j t hj => ?_) (er.s0.trans s), [], f⟩
  · by_cases z : b ∈ a :: as
    · refine ⟨er.s0.free (hn' b z), ?_⟩
      rcases List.mem_cons.mp z with z | z
      · rw [z]
        exact some_ne h
      · exact r.live b z
    · rw [setOs_out z] at ob
      exact ⟨(er.o0 b j ob).1, f.l b (er.o0 b j ob).2⟩
  · rw [List.getElem?_set] at hj ⊢
    by_cases q : i = j
    · subst q
      rw [if_pos rfl] at hj ⊢
      split at hj
      · rename_i hlt
        cases hj
        rw [er.len, if_pos hlt]
        refine .inr (.own2 h (setOs_in List.mem_cons_self) hl nd na (inl_inn (as0 := a :: as) (fun b hb => ⟨hb.1.1, ?_⟩) (fun b hb => setOs_in hb) (fun b hb => List.mem_cons_of_mem _ hb) r))
        rw [setOs_out fun z => ?_]
        · exact hb.1.2
        · rcases List.mem_cons.mp z with z | z
          · exact hb.2.1 z
          · exact hb.2.2 z
      · cases hj
    · rw [if_neg q] at hj ⊢
      exact .inl ⟨List.not_mem_nil, hj, rfl⟩
theorem den_asg {m : Md} {i : Nat} {e : E} {n : Nat} (hw : wf e = true) (er : EnvR K N0 H0 O H σ ρ) (h : Acc K mg W N0 H0 O H D (evS n (.asg m i e) ρ)) : rdS K mg W (.asg m i e) D σ H :=
  acc_store (m := m) hw er h fun v z H' s r _ a => a O H' _ ((er.same s).set r) (.same s)
theorem den_own {m : Md} {i : Nat} {e : E} {n : Nat} (hw : wf e = true) (er : EnvR K N0 H0 O H σ ρ) (h : Acc K mg W N0 H0 O H D (evS n (.own m i e) ρ)) : rdS K mg W (.own m i e) D σ H := by
  refine acc_store (m := m) hw er h fun v z H' s r nw a => ?_
  obtain ⟨xs, e1, a⟩ := acc_some a
  cases v with
  | lst ws =>
    cases e1
    split at a
    · rename_i hf
      cases r with
      | @lst p ys _ np hp hl rr =>
        obtain ⟨e2, x⟩ := er.take (i := i) s (nw hf p _ rfl rfl) hl
        exact a _ H' _ e2 x
    · exact a.elim
  | _ => exact nomatch e1
theorem den_own2 {i : Nat} {e : E} {n : Nat} (hw : wf e = true) (hf : fresh2b e = true) (er : EnvR K N0 H0 O H σ ρ) (h : Acc K mg W N0 H0 O H D (evS n (.own2 i e) ρ)) : rdS K mg W (.own2 i e) D σ H := by
  have h' : Acc K mg W N0 H0 O H D ((evE e (eraseM ρ)).out ρ fun v => asO (lstOf v) fun xs => asO (lstsOf xs) fun xss => if fresh2 e then .nx (ρ.set i (.own2 xss)) else .stuck) := h
  cases hv : evE e (eraseM ρ) with
  | stuck =>
    rw [hv] at h'
    exact h'.elim
  | exc c =>
    rw [hv] at h'
    exact (den W e hw).1.exc (Nf N0 O) H σ (eraseM ρ) c _ er.fr er.ev hv (h'.excW er)
  | ok v =>
    rw [hv] at h'
    obtain ⟨xs, e1, h1⟩ := acc_some (show Acc K mg W N0 H0 O H D (asO (lstOf v) fun xs => asO (lstsOf xs) fun xss => if fresh2 e then .nx (ρ.set i (.own2 xss)) else .stuck) from h')
    obtain ⟨wss, e2, h2⟩ := acc_some h1
    split at h2
    · have fin : ∀ a as H', Same H H' → H a = none → H' a = some (.lst (as.map .ref)) → as.Nodup → a ∉ as → (∀ b ∈ as, H b = none) → wss.length ≤ cap → Inl K (fun b => Nf N0 O b ∧ b ≠ a ∧ b ∉ as) H' as wss → gName i (.ref a) σ H' D.nx := fun a as H' s ha hh nd na hn hl r => by
        obtain ⟨e3, x⟩ := er.take2 (i := i) s ha hh nd na hn hl r
        exact h2 _ H' _ e3 x
      cases e with
      | lst es =>
        cases es with
        | nil =>
          cases hv
          cases e1
          cases e2
          refine ⟨Nat.zero_le _, fun p hp => ?_⟩
          exact fin p [] _ (same_upd hp) hp upd_same .nil List.not_mem_nil (fun b hb => absurd hb List.not_mem_nil) (Nat.zero_le _) .nil
        | cons _ _ => exact nomatch hf
      | comp elt tg src cond own =>
        simp only [wf, Bool.and_eq_true] at hw
        have hv' : ((evSrc src (eraseM ρ)).bind fun items => (compL (compF tg own (fun ρ => evC cond ρ) (fun ρ => evE elt ρ) (eraseM ρ)) items).bind fun vs => .ok (.lst vs)) = .ok v := hv
        obtain ⟨items, q1, hv'⟩ := bind_ok hv'
        obtain ⟨vs, q2, hv'⟩ := bind_ok hv'
        cases hv'
        cases e1
        have de := (den (K := K) (mg := mg) W0 elt hw.1.1.1).1
        rw [show freshTop elt = true from hf] at de
        exact comp_fresh (Q := fun v H' => gName i v σ H' D.nx) (densrc W src hw.1.2) (denc cond hw.2) de hw.1.1.2 er.fr er.ev q1 q2 e2 fin
      | _ => exact nomatch hf
    · exact h2.elim
theorem den_unp {m : Md} {is : List Nat} {e : E} {n : Nat} (hw : wf e = true) (er : EnvR K N0 H0 O H σ ρ) (h : Acc K mg W N0 H0 O H D (evS n (.unp m is e) ρ)) : rdS K mg W (.unp m is e) D σ H := by
  refine acc_store (m := m) hw er h fun v z H' s r _ a => ?_
  obtain ⟨vs, e1, a⟩ := acc_some a
  obtain ⟨ρ', e2, a⟩ := acc_some a
  exact env_any (er.same s) r e1 e2 fun σ2 e3 => a O H' σ2 e3 (.same s)
theorem den_par {is : List Nat} {es : Es} {n : Nat} (hw : wfs es = true) (hl : (is.length == 2 || is.length == 3) = true) (er : EnvR K N0 H0 O H σ ρ) (h : Acc K mg W N0 H0 O H D (evS n (.par is es) ρ)) : rdS K mg W (.par is es) D σ H := by
  have h' : Acc K mg W N0 H0 O H D ((evPar es ρ).out ρ fun vs => asO (bindAll ρ is vs) fun ρ' => .nx ρ') := h
  have go : ∀ Q : List V → Hp → Prop, (∀ vs xs H' ρ', Same H H' → Reps K (Nf N0 O) H' xs vs → bindAll ρ is vs = some ρ' → (∀ σ', EnvR K N0 H0 O H' σ' ρ' → D.nx σ' H') → Q xs H') → rdEs K mg W es σ H Q := fun Q k => by
    cases hv : evPar es ρ with
    | stuck =>
      rw [hv] at h'
      exact h'.elim
    | exc c =>
      rw [hv] at h'
      rcases evPar_exc hv with hv | hv
      · exact (dens W es hw).exc (Nf N0 O) H σ (eraseM ρ) c _ er.fr er.ev hv (h'.excW er)
      · exact (dens W es hw).exc N0 H σ ρ c _ er.fr0 er.ev0 hv (h'.excW er)
    | ok vs =>
      rw [hv] at h'
      obtain ⟨ρ', e2, a⟩ := acc_some (show Acc K mg W N0 H0 O H D (asO (bindAll ρ is vs) fun ρ' => .nx ρ') from h')
      rcases evPar_ok hv with hv | ⟨hv, hp⟩
      · exact (dens W es hw).ok (Nf N0 O) H σ (eraseM ρ) vs _ er.fr er.ev hv fun xs H' s r => k vs xs H' ρ' s r e2 fun σ' e3 => a O H' σ' e3 (.same s)
      · exact (dens W es hw).ok N0 H σ ρ vs _ er.fr0 er.ev0 hv fun xs H' s r => k vs xs H' ρ' s (r.ofPure hp) e2 fun σ' e3 => a O H' σ' e3 (.same s)
  match is, hl with
  | [i, j], _ =>
    refine go _ fun vs xs H' ρ' s r hb k => ?_
    cases r with
    | nil => exact nomatch hb
    | cons r1 r =>
      cases r with
      | nil => exact nomatch hb
      | cons r2 r =>
        cases r with
        | nil =>
          cases hb
          exact ⟨_, _, rfl, k _ (((er.same s).set r1).set r2)⟩
        | cons _ _ => exact nomatch hb
  | [i, j, l], _ =>
    refine go _ fun vs xs H' ρ' s r hb k => ?_
    cases r with
    | nil => exact nomatch hb
    | cons r1 r =>
      cases r with
      | nil => exact nomatch hb
      | cons r2 r =>
        cases r with
        | nil => exact nomatch hb
        | cons r3 r =>
          cases r with
          | nil =>
            cases hb
            exact ⟨_, _, _, rfl, k _ ((((er.same s).set r1).set r2).set r3)⟩
          | cons _ _ => exact nomatch hb
theorem den_app {m : Md} {i : Nat} {e : E} {n : Nat} (hw : wf e = true) (er : EnvR K N0 H0 O H σ ρ) (h : Acc K mg W N0 H0 O H D (evS n (.app m i e) ρ)) : rdS K mg W (.app m i e) D σ H := by
  obtain ⟨vs, e1, h⟩ := acc_some (show Acc K mg W N0 H0 O H D (asO (ownOf ρ[i]?) fun vs => (storeV m e ρ).out ρ fun v => if vs.length < cap then .nx (ρ.set i (.own (vs ++ [v]))) else .stuck) from h)
  obtain ⟨a, xs, h1, h2, h3, h4, h5, h6⟩ := own_at er e1
  refine ⟨_, h1, Or.inl ⟨rfl, _, SqL.of h2⟩, ?_⟩
  refine acc_store (m := m) hw er h fun v z H' s r _ b => ?_
  split at b
  · rename_i hlt
    refine ⟨a, xs, z, rfl, rfl, s _ _ h2, by rw [h5.length]; exact cap_lt hlt, ?_⟩
    obtain ⟨e2, x⟩ := (er.same s).write h1 h6 (s _ _ h2) h3 (ws := vs ++ [v]) (by rw [List.length_append]; exact hlt) ((h5.same s).append (.cons r .nil))
    exact b O _ σ e2 ((Ext.same s).trans x)
  · exact b.elim
theorem den_ext {m : Md} {i : Nat} {e : E} {n : Nat} (hw : wf e = true) (er : EnvR K N0 H0 O H σ ρ) (h : Acc K mg W N0 H0 O H D (evS n (.ext m i e) ρ)) : rdS K mg W (.ext m i e) D σ H := by
  obtain ⟨vs, e1, h⟩ := acc_some (show Acc K mg W N0 H0 O H D (asO (ownOf ρ[i]?) fun vs => (storeV m e ρ).out ρ fun v => asO (lstOf v) fun ws => if vs.length + ws.length ≤ cap then .nx (ρ.set i (.own (vs ++ ws))) else .stuck) from h)
  obtain ⟨a, xs, h1, h2, h3, h4, h5, h6⟩ := own_at er e1
  refine ⟨_, h1, Or.inl ⟨rfl, _, SqL.of h2⟩, ?_⟩
  refine acc_store (m := m) hw er h fun v z H' s r _ b => ?_
  obtain ⟨ws, e2, b2⟩ := acc_some b
  split at b2
  · rename_i hlt
    cases r with
    | @lst p ys _ np hp hl rr =>
      cases e2
      refine ⟨a, p, xs, ys, rfl, rfl, s _ _ h2, hp, by rw [h5.length, rr.length]; exact cap_line hlt, ?_⟩
      obtain ⟨e2, x⟩ := (er.same s).write h1 h6 (s _ _ h2) h3 (ws := vs ++ ws) (by rw [List.length_append]; exact hlt) ((h5.same s).append rr)
      exact b2 O _ σ e2 ((Ext.same s).trans x)
    | _ => exact nomatch e2
  · exact b2.elim
theorem den_set {m : Md} {i : Nat} {ie e : E} {n : Nat} (hw : wf e = true) (hi : wf ie = true) (er : EnvR K N0 H0 O H σ ρ) (h : Acc K mg W N0 H0 O H D (evS n (.set m i ie e) ρ)) : rdS K mg W (.set m i ie e) D σ H := by
  refine acc_store (m := m) hw er h fun v z H1 s1 r _ b => ?_
  obtain ⟨vs, e1, b⟩ := acc_some b
  have er1 := er.same s1
  obtain ⟨a, xs, h1, h2, h3, h4, h5, h6⟩ := own_at er1 e1
  refine ⟨_, h1, ?_⟩
  refine acc_int hi er1 (b.mono (.same s1)) fun k H2 s2 b2 => ?_
  obtain ⟨j, e2, b2⟩ := acc_some b2
  have e3 : L2.ixN xs.length k = some j := by
    rw [h5.length]
    exact e2
  refine ⟨a, xs, k, j, rfl, rfl, s2 _ _ h2, e3, ?_⟩
  obtain ⟨e4, x⟩ := (er1.same s2).write h1 h6 (s2 _ _ h2) h3 (ws := vs.set j v) (by rw [List.length_set]; exact h4) ((h5.same s2).set j (r.same s2))
  exact b2 O _ σ e4 x
theorem den_set2 {i : Nat} {ie je e : E} {n : Nat} (hw : wf e = true) (hi : wf ie = true) (hj : wf je = true) (er : EnvR K N0 H0 O H σ ρ) (h : Acc K mg W N0 H0 O H D (evS n (.set2 i ie je e) ρ)) : rdS K mg W (.set2 i ie je e) D σ H := by
  refine acc_store (m := .pure) hw er h fun v z H1 s1 r _ b => ?_
  obtain ⟨wss, e1, b⟩ := acc_some b
  have er1 := er.same s1
  obtain ⟨a, as, h1, h2, h3, h4, nd, na, h5, h6⟩ := own2_at er1 e1
  refine ⟨_, h1, ?_⟩
  refine acc_int hi er1 (b.mono (.same s1)) fun k H2 s2 b2 => ?_
  obtain ⟨j, e2, b2⟩ := acc_some b2
  obtain ⟨ws, e3, b2⟩ := acc_some b2
  obtain ⟨c, ys, g1, g2, g3, g4, g5⟩ := h5.get e3
  have las : as.length = wss.length := h5.length
  have ei : L2.atI (as.map V.ref) k = some (.ref c) := by
    unfold L2.atI
    rw [List.length_map, las, ixN_eq, e2]
    show (as.map V.ref)[j]? = _
    rw [List.getElem?_map, g1]
    rfl
  have er2 := er1.same s2
  refine Or.inl ⟨a, as.map .ref, k, .ref c, rfl, rfl, SqL.of (s2 _ _ h2), ei, ?_⟩
  refine acc_int hj er2 b2 fun k2 H3 s3 b3 => ?_
  obtain ⟨j2, e4, b3⟩ := acc_some b3
  have s23 := s2.trans s3
  have er3 := er2.same s3
  have e5 : L2.ixN ys.length k2 = some j2 := by
    rw [g5.length]
    exact e4
  have g2' := s23 _ _ g2
  refine ⟨c, ys, k2, j2, rfl, rfl, g2', e5, ?_⟩
  have f : Frm N0 [i] O H3 O (upd H3 c (.lst (ys.set j2 z))) := .write g3 g2' (fun z => z)
  have hca : a ≠ c := fun z => na (by rw [z]; exact List.mem_of_getElem? g1)
  have f35 : Frm N0 [] O H1 O H3 := .of_same s23
  have inn3 : Inn K N0 O H3 i as wss := f35.inn List.not_mem_nil h5
  refine b3 O _ σ (er3.frm f (fun b j ob => ⟨(er3.o0 b j ob).1, f.l b (er3.o0 b j ob).2⟩) (by rw [List.length_set]; exact er3.len) (fun l t hl => ?_) fun b ob hb => ?_) ⟨[i], f⟩
  · rw [List.getElem?_set] at hl
    by_cases q : i = l
    · subst q
      rw [if_pos rfl] at hl
      split at hl
      · cases hl
        rw [h1]
        refine .inr (.own2 (by rw [upd_ne hca]; exact s23 _ _ h2) h3 (by rw [List.length_set]; exact h4) nd na ?_)
        exact inn3.set f g3 (by rw [List.length_set]; exact g4) ((g5.same s23).set j2 (r.same s23)) nd g1
      · cases hl
    · rw [if_neg q] at hl
      exact .inl ⟨by rw [List.mem_singleton]; exact fun z => q z.symm, hl, rfl⟩
  · have hne : b ≠ c := fun z => by
      rw [z, (er3.o0 c i g3).1] at hb
      cases hb
    rw [upd_ne hne]
    exact er3.s0 b ob hb
end
end Lh
set_option Elab.async false
set_option linter.all false
set_option maxRecDepth 100000
set_option maxHeartbeats 8000000
namespace Lh
open L2 (ixN)
open PySem L2
section
variable {K : PySem.W.Frag} {mg : Str → Option Value} {W : WX} {N0 : Addr → Prop} {H0 : Hp} {O : Own} {H : Hp} {σ : St} {ρ : Env} {D : Ends}
theorem Inn.own {i : Nat} : ∀ {as : List Addr} {wss : List (List Val)}, Inn K N0 O H i as wss → ∀ b ∈ as, O b = some i
  | _, _, .nil, _, h => absurd h (List.not_mem_nil)
  | _, _, .cons _ o _ _ t, b, hb => by
    rcases List.mem_cons.mp hb with z | z
    · rw [z]
      exact o
    · exact t.own b z
theorem Inn.snoc {i : Nat} {b : Addr} {xs : List V} {ws : List Val} (h : H b = some (.lst xs)) (o : O b = some i) (hl : ws.length ≤ cap) (r : Reps K (Nf N0 O) H xs ws) : ∀ {as : List Addr} {wss : List (List Val)}, Inn K N0 O H i as wss → Inn K N0 O H i (as ++ [b]) (wss ++ [ws])
  | _, _, .nil => .cons h o hl r .nil
  | _, _, .cons h' o' hl' r' t => .cons h' o' hl' r' (t.snoc h o hl r)
theorem den_appOwn {i j : Nat} {n : Nat} (er : EnvR K N0 H0 O H σ ρ) (h : Acc K mg W N0 H0 O H D (evS n (.appOwn i j) ρ)) : rdS K mg W (.appOwn i j) D σ H := by
  obtain ⟨ws, e1, h⟩ := acc_some (show Acc K mg W N0 H0 O H D (asO (ownOf ρ[j]?) fun ws => asO (own2Of ρ[i]?) fun vss => if vss.length < cap ∧ i ≠ j then .nx ((ρ.set j .non).set i (.own2 (vss ++ [ws]))) else .stuck) from h)
  obtain ⟨wss, e2, h⟩ := acc_some h
  split at h
  · rename_i hc
    obtain ⟨hlt, hij⟩ := hc
    obtain ⟨b, xs, b1, b2, b3, b4, b5, b6⟩ := own_at er e1
    obtain ⟨a, as, a1, a2, a3, a4, nd, na, a5, a6⟩ := own2_at er e2
    refine ⟨_, a1, Or.inl ⟨rfl, _, SqL.of a2⟩, _, b1, ?_⟩
    refine ⟨a, as.map .ref, .ref b, rfl, rfl, a2, by rw [List.length_map, a5.length]; exact cap_lt hlt, ?_⟩
    have hab : a ≠ b := fun z => by
      rw [z, b3] at a3
      exact hij (Option.some.inj a3).symm
    have hbas : b ∉ as := fun z => by
      have := a5.own b z
      rw [b3] at this
      exact hij (Option.some.inj this).symm
    have f1 : Frm N0 [j] O H (movO O j i) H := .move
    have oa : movO O j i a = some i := by
      unfold movO
      rw [if_neg, a3]
      rw [a3]
      exact fun z => hij (Option.some.inj z)
    have ob : movO O j i b = some i := by
      unfold movO
      rw [if_pos b3]
    have f2 : Frm N0 [i] (movO O j i) H (movO O j i) (upd H a (.lst (as.map V.ref ++ [V.ref b]))) := .write oa a2 (fun z => z)
    have f := f1.trans f2
    refine h (movO O j i) _ σ (er.frm f (fun c l oc => ?_) (by rw [List.length_set, List.length_set]; exact er.len) (fun l t hl => ?_) fun c oc hc => ?_) ⟨_, f⟩
    · have oc' : O c ≠ none := fun z => by
        unfold movO at oc
        rw [if_neg (by rw [z]; exact fun q => nomatch q), z] at oc
        cases oc
      cases q : O c with
      | none => exact absurd q oc'
      | some k => exact ⟨(er.o0 c k q).1, f.l c (er.o0 c k q).2⟩
    · rw [List.getElem?_set] at hl
      by_cases q : i = l
      · subst q
        rw [if_pos rfl] at hl
        split at hl
        · cases hl
          rw [a1]
          have i1 : Inn K N0 (movO O j i) H i (as ++ [b]) (wss ++ [ws]) := (f1.inn (by rw [List.mem_singleton]; exact hij) a5).snoc b2 ob b4 (f1.keeps b5)
          refine .inr (.own2 (as := as ++ [b]) ?_ oa (by rw [List.length_append]; exact hlt) ?_ ?_ (i1.far f2 ?_))
          · rw [upd_same, List.map_append]
            rfl
          · rw [List.nodup_append]
            exact ⟨nd, by simp, fun x hx y hy => by
              rw [List.mem_singleton] at hy
              rw [hy]
              exact fun z => hbas (by rw [← z]; exact hx)⟩
          · intro z
            rcases List.mem_append.mp z with z | z
            · exact na z
            · rw [List.mem_singleton] at z
              exact hab z
          · intro z
            rcases List.mem_append.mp z with z | z
            · exact na z
            · rw [List.mem_singleton] at z
              exact hab z
        · cases hl
      · rw [if_neg q] at hl
        rw [List.getElem?_set] at hl
        by_cases q2 : j = l
        · subst q2
          rw [if_pos rfl] at hl
          split at hl
          · cases hl
            exact .inr .non
          · cases hl
        · rw [if_neg q2] at hl
          refine .inl ⟨?_, hl, rfl⟩
          intro z
          rcases List.mem_append.mp z with z | z
          · rw [List.mem_singleton] at z
            exact q2 z.symm
          · rw [List.mem_singleton] at z
            exact q z.symm
    · have hne : c ≠ a := fun z => by
        rw [z, (er.o0 a i a3).1] at hc
        cases hc
      rw [upd_ne hne]
      exact er.s0 c oc hc
  · exact h.elim
theorem popAt_ok {xs : List V} {vs vs' : List Val} {k : Int} {y : Val} {N : Addr → Prop} (r : Reps K N H xs vs) (h : popAt vs (some k) = some (y, vs')) : ∃ kk z, seqIndex? k xs.length = some kk ∧ (vs.length ≤ cap → -(2 ^ 63) ≤ k ∧ k < 2 ^ 63) ∧ xs[kk]? = some z ∧ Rep K N H z y ∧ Reps K N H (xs.eraseIdx kk) vs' ∧ vs'.length ≤ vs.length := by
  have h' : ((ixN vs.length k).bind fun k => (vs[k]?).map fun y => (y, vs.eraseIdx k)) = some (y, vs') := h
  cases e : ixN vs.length k with
  | none =>
    rw [e] at h'
    cases h'
  | some kk =>
    rw [e] at h'
    cases e2 : vs[kk]? with
    | none =>
      have h2 : (vs[kk]?).map (fun y => (y, vs.eraseIdx kk)) = some (y, vs') := h'
      rw [e2] at h2
      cases h2
    | some u =>
      have h2 : (vs[kk]?).map (fun y => (y, vs.eraseIdx kk)) = some (y, vs') := h'
      rw [e2] at h2
      cases h2
      obtain ⟨z, hz, rz⟩ := r.get e2
      obtain ⟨s1, s2⟩ := seqIndex_ixN e
      exact ⟨kk, z, by rw [r.length]; exact s1, s2, hz, rz, r.eraseIdx kk, len_erase _ _⟩
theorem den_appPop {i j : Nat} {e : E} {n : Nat} (hw : wf e = true) (er : EnvR K N0 H0 O H σ ρ) (h : Acc K mg W N0 H0 O H D (evS n (.appPop i j e) ρ)) : rdS K mg W (.appPop i j e) D σ H := by
  obtain ⟨vs, e1, h⟩ := acc_some (show Acc K mg W N0 H0 O H D (asO (ownOf ρ[j]?) fun vs => asO (ownOf ρ[i]?) fun ws => (evE e ρ).out ρ fun w => asO (intOf w) fun k => asO (popAt vs (some k)) fun p => if i = j ∨ ¬ ws.length < cap then .stuck else .nx ((ρ.set j (.own p.2)).set i (.own (ws ++ [p.1])))) from h)
  obtain ⟨ws, e2, h⟩ := acc_some h
  obtain ⟨b, xs, b1, b2, b3, b4, b5, b6⟩ := own_at er e1
  obtain ⟨a, ys, a1, a2, a3, a4, a5, a6⟩ := own_at er e2
  refine ⟨_, a1, Or.inl ⟨rfl, _, SqL.of a2⟩, _, b1, Or.inl ⟨rfl, _, SqL.of b2⟩, ?_⟩
  refine acc_int hw er h fun k H1 s1 h1 => ?_
  obtain ⟨p, e3, h1⟩ := acc_some h1
  obtain ⟨y, vs'⟩ := p
  split at h1
  · exact h1.elim
  · rename_i hc
    have hij : i ≠ j := fun z => hc (.inl z)
    have hlt : ws.length < cap := Classical.byContradiction fun z => hc (.inr z)
    have er1 := er.same s1
    obtain ⟨kk, z, q1, q2, q3, q4, q5, q6⟩ := popAt_ok (b5.same s1) e3
    obtain ⟨k1, k2⟩ := q2 b4
    refine ⟨b, xs, k, kk, z, rfl, rfl, s1 _ _ b2, k1, k2, q1, q3, ?_⟩
    obtain ⟨er2, x2⟩ := er1.write b1 b6 (s1 _ _ b2) b3 (ws := vs') (Nat.le_trans q6 b4) q5
    have hba : a ≠ b := fun z => by
      rw [z, b3] at a3
      exact hij (Option.some.inj a3).symm
    have f : Frm N0 [j] O H1 O (upd H1 b (.lst (xs.eraseIdx kk))) := .write b3 (s1 _ _ b2) (fun z => z)
    have a2' : (upd H1 b (.lst (xs.eraseIdx kk))) a = some (.lst ys) := by
      rw [upd_ne hba]
      exact s1 _ _ a2
    refine ⟨a, ys, z, rfl, rfl, a2', by rw [a5.length]; exact cap_lt hlt, ?_⟩
    obtain ⟨er3, x3⟩ := er2.write a1 (by rw [List.getElem?_set, if_neg (Ne.symm hij)]; exact a6) a2' a3 (ws := ws ++ [y]) (by rw [List.length_append]; exact hlt) ((f.keeps (a5.same s1)).append (.cons (f.keep q4) .nil))
    exact h1 O _ σ er3 (x2.trans x3)
theorem den_popAt {i j : Nat} {e : E} {n : Nat} (hw : wf e = true) (er : EnvR K N0 H0 O H σ ρ) (h : Acc K mg W N0 H0 O H D (evS n (.pop i j (.yes e)) ρ)) : rdS K mg W (.pop i j (.yes e)) D σ H := by
  obtain ⟨vs, e1, h⟩ := acc_some (show Acc K mg W N0 H0 O H D (asO (ownOf ρ[j]?) fun vs => (evEo (.yes e) ρ).out ρ fun o => (optI o).out ρ fun o => asO (popAt vs o) fun p => if i = j then .stuck else .nx ((ρ.set j (.own p.2)).set i (.val p.1))) from h)
  have h : Acc K mg W N0 H0 O H D ((evE e ρ).out ρ fun w => asO (intOf w) fun k => asO (popAt vs (some k)) fun p => if i = j then .stuck else .nx ((ρ.set j (.own p.2)).set i (.val p.1))) := by
    have e0 : evEo (.yes e) ρ = (evE e ρ).bind fun v => .ok (some v) := rfl
    rw [e0] at h
    cases q : evE e ρ with
    | ok v =>
      rw [q] at h
      cases v with
      | int k => exact h
      | _ => exact h
    | exc c =>
      rw [q] at h
      exact h
    | stuck =>
      rw [q] at h
      exact h
  obtain ⟨b, xs, b1, b2, b3, b4, b5, b6⟩ := own_at er e1
  refine ⟨_, b1, Or.inl ⟨rfl, _, SqL.of b2⟩, ?_⟩
  refine acc_int hw er h fun k H1 s1 h1 => ?_
  obtain ⟨p, e3, h1⟩ := acc_some h1
  obtain ⟨y, vs'⟩ := p
  split at h1
  · exact h1.elim
  · have er1 := er.same s1
    obtain ⟨kk, z, q1, q2, q3, q4, q5, q6⟩ := popAt_ok (b5.same s1) e3
    obtain ⟨k1, k2⟩ := q2 b4
    refine ⟨b, xs, k, kk, z, rfl, rfl, s1 _ _ b2, k1, k2, q1, q3, ?_⟩
    obtain ⟨er2, x2⟩ := er1.write b1 b6 (s1 _ _ b2) b3 (ws := vs') (Nat.le_trans q6 b4) q5
    have f : Frm N0 [j] O H1 O (upd H1 b (.lst (xs.eraseIdx kk))) := .write b3 (s1 _ _ b2) (fun z => z)
    exact h1 O _ _ (er2.set (f.keep q4)) x2
def drpO (O : Own) (a : Addr) : Own := fun b => if b = a then none else O b
theorem Frm.drop {a : Addr} {i : Nat} (h : O a = some i) : Frm N0 [i] O H (drpO O a) H :=
  ⟨fun _ _ h _ => h, fun b _ o => by
    unfold drpO
    split
    · rfl
    · exact o, fun b k hk o _ => ⟨rfl, by
    unfold drpO
    rw [if_neg, o]
    intro z
    rw [z, h] at o
    cases o
    exact hk (List.mem_singleton.mpr rfl)⟩, fun _ h => h⟩
theorem popAll_cons {f : Val → List Val → Option (Val × List Val)} {x : Val} {r vs : List Val} {p : List Val × List Val} (h : popAll f (x :: r) vs = some p) : ∃ y vs' q, f x vs = some (y, vs') ∧ popAll f r vs' = some q ∧ p = (y :: q.1, q.2) := by
  unfold popAll at h
  cases e : f x vs with
  | none =>
    rw [e] at h
    cases h
  | some yv =>
    obtain ⟨y, vs'⟩ := yv
    rw [e] at h
    cases e2 : popAll f r vs' with
    | none =>
      have h2 : (popAll f r vs').map (fun p => (y :: p.1, p.2)) = some p := h
      rw [e2] at h2
      cases h2
    | some q =>
      have h2 : (popAll f r vs').map (fun p => (y :: p.1, p.2)) = some p := h
      rw [e2] at h2
      cases h2
      exact ⟨y, vs', q, rfl, e2, rfl⟩
end
end Lh
set_option Elab.async false
set_option linter.all false
set_option maxRecDepth 100000
set_option maxHeartbeats 8000000
namespace Lh
open PySem L2
section
variable {K : PySem.W.Frag} {mg : Str → Option Value} {W : WX} {N0 : Addr → Prop} {H0 : Hp} {O : Own} {H : Hp} {σ : St} {ρ : Env} {D : Ends}
def popF (i j tg : Nat) (e : E) (ρ : Env) (x : Val) (vs : List Val) : Option (Val × List Val) :=
  match evE e ((((ρ.set i .non).set tg .non).set j (.own vs)).set tg (.val x)) with
  | .ok (.int k) => popAt vs (some k)
  | _ => none
theorem set_get_ne {α : Type} {l : List α} {i j : Nat} {x : α} (h : i ≠ j) : (l.set i x)[j]? = l[j]? := by rw [List.getElem?_set, if_neg h]
theorem den_compPop {i j tg : Nat} {e : E} {src : Src} {n : Nat} (hw : wf e = true) (hs : wfsrc src = true) (er : EnvR K N0 H0 O H σ ρ) (h : Acc K mg W N0 H0 O H D (evS n (.compPop i j e tg src) ρ)) : rdS K mg W (.compPop i j e tg src) D σ H := by
  obtain ⟨vs, e1, h⟩ := acc_some (show Acc K mg W N0 H0 O H D (asO (ownOf ρ[j]?) fun vs => (evSrc src (eraseM ρ)).out ρ fun items => asO (popAll (popF i j tg e ρ) items vs) fun p => if i = j ∨ tg = j then .stuck else .nx ((ρ.set j (.own p.2)).set i (.val (.lst p.1)))) from h)
  refine acc_src hs er h fun items J H1 G Y s1 hl wk g0 st a D1 hD => ?_
  obtain ⟨p, e2, a⟩ := acc_some a
  split at a
  · exact a.elim
  rename_i hc
  have hij : i ≠ j := fun z => hc (.inl z)
  have htj : tg ≠ j := fun z => hc (.inr z)
  have er1 := er.same s1
  obtain ⟨b, xs, b1, b2, b3, b4, b5, b6⟩ := own_at er1 e1
  -- the new list is i's while it grows
  have hjl : j < ρ.length := by
    have := List.getElem?_eq_some_iff.mp b6
    exact this.1
  have fT : Frm N0 [] O H1 (setO O D1 i) (upd H1 D1 (.lst [])) := .take (same_upd hD) hD
  obtain ⟨O1, hO1⟩ : ∃ O1, O1 = setO O D1 i := ⟨_, rfl⟩
  rw [← hO1] at fT
  have oD : O1 D1 = some i := by rw [hO1]; exact setO_same
  have erD : EnvR K N0 H0 O1 (upd H1 D1 (.lst [])) σ ((ρ.set i .non).set j (.own vs)) := by
    refine er1.frm fT (fun c l oc => ?_) (by rw [List.length_set, List.length_set]; exact er1.len) (fun l t hl => ?_) (er1.s0.trans (same_upd hD))
    · by_cases z : c = D1
      · subst z
        exact ⟨er1.s0.free hD, some_ne upd_same⟩
      · rw [hO1, setO_ne z] at oc
        exact ⟨(er1.o0 c l oc).1, fT.l c (er1.o0 c l oc).2⟩
    · rw [List.getElem?_set] at hl
      by_cases q : j = l
      · subst q
        rw [if_pos rfl] at hl
        split at hl
        · cases hl
          exact .inl ⟨List.not_mem_nil, b6, rfl⟩
        · cases hl
      · rw [if_neg q] at hl
        rw [List.getElem?_set] at hl
        split at hl
        · split at hl
          · cases hl
            exact .inr .non
          · cases hl
        · exact .inl ⟨List.not_mem_nil, hl, rfl⟩
  have stE : ∀ H2, Ext N0 O H1 O1 H2 → Keep (fun c => Nf N0 O c ∧ c ≠ D1) H1 H2 := fun H2 ⟨is, f⟩ c o hc hh => f.k c o hc (hh.imp (·.1) id)
  have cl : ∀ c, Nf N0 O c → H1 c ≠ none → Nf N0 O c ∧ c ≠ D1 := fun c hc h0 => ⟨hc, fun z => h0 (by rw [z]; exact hD)⟩
  obtain ⟨stG, stY⟩ := st (fun c => Nf N0 O c ∧ c ≠ D1) cl
  refine lc_it wk (fun t H2 => ∃ vt acc dn rest, EnvR K N0 H0 O1 H2 σ ((ρ.set i .non).set j (.own vt)) ∧ H2 D1 = some (.lst acc) ∧ Reps K (Nf N0 O1) H2 acc dn ∧ popAll (popF i j tg e ρ) (items.drop t) vt = some rest ∧ p = (dn ++ rest.1, rest.2) ∧ Ext N0 O H1 O1 H2 ∧ acc.length ≤ t) ?_ ?_ ?_ ?_
  · exact ⟨vs, [], [], p, erD, upd_same, .nil, e2, rfl, ⟨_, fT⟩, Nat.le_refl _⟩
  · rintro t H2 ht ⟨vt, acc, dn, rest, h1, h2, h3, h4, h5, h6, h7⟩
    exact stG H1 H2 (stE H2 h6) g0
  · rintro t x H2 H3 ht ⟨vt, acc, dn, rest, h1, h2, h3, h4, h5, h6, h7⟩ y
    obtain ⟨w, ew, s3, rw'⟩ := stY t H2 x H3 ht (stE H2 h6) (stG H1 H2 (stE H2 h6) g0) y
    have hlt : t < items.length := ht
    rw [List.drop_eq_getElem_cons hlt] at h4
    have ew2 : items[t] = w := by
      rw [List.getElem?_eq_getElem hlt] at ew
      exact Option.some.inj ew
    rw [ew2] at h4
    obtain ⟨yv, vt', q, f1, f2, f3⟩ := popAll_cons h4
    have er3 := h1.same s3
    have hown : ownOf ((ρ.set i .non).set j (.own vt))[j]? = some vt := by
      rw [List.getElem?_set, if_pos rfl, if_pos (by rw [List.length_set]; exact hjl)]
      rfl
    obtain ⟨c, zs, c1, c2, c3, c4, c5, c6⟩ := own_at er3 hown
    -- the names within
    have rx : Rep K N0 H3 x w := rw'.more fun _ hh => hh.1.1
    have ev : Ev K N0 H3 ((L2.wipe σ [tg]).set tg (some x)) ((((ρ.set i .non).set tg .non).set j (.own vt)).set tg (.val w)) := by
      have ev1 := ((er3.ev0).wipe [tg]).set tg rx
      have ee : (kill ((ρ.set i .non).set j (.own vt)) [tg]).set tg (.val w) = (((ρ.set i .non).set tg .non).set j (.own vt)).set tg (.val w) := by
        show ((((ρ.set i .non).set j (.own vt)).set tg .non).set tg (.val w)) = _
        rw [List.set_comm _ _ htj]
      rw [ee] at ev1
      exact ev1
    refine ⟨?_, ?_⟩
    · rw [wipe_set (List.mem_singleton.mpr rfl), wipe_wipe]
    · unfold tYes
      dsimp only
      rw [if_pos rfl]
      have c1' : ((L2.wipe σ [tg]).set tg (some x))[j]? = some (some (.ref c)) := by
        rw [set_get_ne htj, wipe_get, if_neg (by rw [List.mem_singleton]; exact fun z => htj z.symm)]
        exact c1
      refine ⟨_, c1', Or.inl ⟨rfl, _, SqL.of c2⟩, ?_⟩
      unfold popF at f1
      cases he : evE e ((((ρ.set i .non).set tg .non).set j (.own vt)).set tg (.val w)) with
      | ok v =>
        rw [he] at f1
        cases v with
        | int k =>
          refine (den W0 e hw).1.ok N0 H3 _ _ _ _ er3.fr0 ev he fun z H4 s4 r4 _ => ?_
          cases r4
          have f1' : popAt vt (some k) = some (yv, vt') := f1
          obtain ⟨kk, z, q1, q2, q3, q4, q5, q6⟩ := popAt_ok (c5.same s4) f1'
          obtain ⟨k1, k2⟩ := q2 c4
          refine ⟨c, zs, k, kk, z, rfl, rfl, s4 _ _ c2, k1, k2, q1, q3, ?_⟩
          have er4 := er3.same s4
          obtain ⟨er5, x5⟩ := er4.write c1 c6 (s4 _ _ c2) c3 (ws := vt') (Nat.le_trans q6 c4) q5
          have fw : Frm N0 [j] O1 H4 O1 (upd H4 c (.lst (zs.eraseIdx kk))) := .write c3 (s4 _ _ c2) (fun z => z)
          have hDc : D1 ≠ c := fun z => by
            rw [← z, oD] at c3
            exact hij (Option.some.inj c3)
          have s24 : Same H2 H4 := s3.trans s4
          have hD5 : (upd H4 c (.lst (zs.eraseIdx kk))) D1 = some (.lst acc) := by
            rw [upd_ne hDc]
            exact s24 _ _ h2
          have fD : Frm N0 [i] O1 (upd H4 c (.lst (zs.eraseIdx kk))) O1 (upd (upd H4 c (.lst (zs.eraseIdx kk))) D1 (.lst (acc ++ [z]))) := .write oD hD5 (fun z => z)
          refine ⟨acc, hD5, Nat.lt_of_lt_of_le (Nat.lt_of_le_of_lt h7 hlt) (Nat.le_trans hl (by decide)), ?_⟩
          refine ⟨vt', acc ++ [z], dn ++ [yv], q, ?_, upd_same, ?_, f2, ?_, ?_, ?_⟩
          · have e5 : ((ρ.set i .non).set j (.own vt)).set j (.own vt') = (ρ.set i .non).set j (.own vt') := by rw [List.set_set]
            rw [e5] at er5
            refine er5.frm fD (fun d l od => ⟨(er5.o0 d l od).1, fD.l d (er5.o0 d l od).2⟩) er5.len (fun l u hl => ?_) fun d od hd => ?_
            · by_cases ql : l = i
              · subst ql
                rw [set_get_ne (Ne.symm hij), List.getElem?_set, if_pos rfl] at hl
                split at hl
                · cases hl
                  exact .inr .non
                · cases hl
              · exact .inl ⟨by rw [List.mem_singleton]; exact ql, hl, rfl⟩
            · have hne : d ≠ D1 := fun z => by
                rw [z, (er5.o0 D1 i oD).1] at hd
                cases hd
              rw [upd_ne hne]
              exact er5.s0 d od hd
          · exact fD.keeps ((fw.keeps (h3.same s24)).append (.cons (fw.keep q4) .nil))
          · rw [h5, f3, List.append_assoc]
            rfl
          · exact ((h6.trans (.same s24)).trans ⟨_, fw⟩).trans ⟨_, fD⟩
          · rw [List.length_append]
            simp only [List.length_cons, List.length_nil]
            omega
        | _ => exact nomatch f1
      | exc cc =>
        rw [he] at f1
        exact nomatch f1
      | stuck =>
        rw [he] at f1
        exact nomatch f1
  · rintro H2 ⟨vt, acc, dn, rest, h1, h2, h3, h4, h5, h6, h7⟩
    rw [List.drop_length] at h4
    cases h4
    have hp : p = (dn, vt) := by
      rw [h5, List.append_nil]
    subst hp
    have fR : Frm N0 [i] O1 H2 (drpO O1 D1) H2 := .drop oD
    refine a (drpO O1 D1) H2 _ (h1.frm fR (fun d l od => ?_) (by rw [List.length_set, List.length_set, List.length_set]; exact er1.len) (fun l u hl => ?_) h1.s0) (h6.trans ⟨_, fR⟩)
    · unfold drpO at od
      split at od
      · cases od
      · exact h1.o0 d l od
    · rw [List.getElem?_set] at hl
      by_cases q : i = l
      · subst q
        rw [if_pos rfl] at hl
        split at hl
        · rename_i hll
          cases hl
          have es : (σ.set i (some (V.ref D1)))[i]? = some (some (.ref D1)) := by rw [List.getElem?_set, if_pos rfl, if_pos (by rw [er1.len]; rw [List.length_set] at hll; exact hll)]
          rw [es]
          refine .inr (.val (.lst ⟨er1.fr0 D1 hD, if_pos rfl⟩ h2 ?_ (fR.keeps h3)))
          rw [← h3.length]
          exact Nat.le_trans h7 hl
        · cases hl
      · rw [if_neg q] at hl
        refine .inl ⟨by rw [List.mem_singleton]; exact fun z => q z.symm, ?_, set_get_ne q⟩
        rw [List.getElem?_set] at hl ⊢
        by_cases q2 : j = l
        · subst q2
          rw [if_pos rfl] at hl ⊢
          rw [List.length_set]
          exact hl
        · rw [if_neg q2] at hl ⊢
          rw [set_get_ne q]
          exact hl
end
end Lh
set_option Elab.async false
set_option linter.all false
set_option maxRecDepth 100000
set_option maxHeartbeats 8000000
namespace Lh
open PySem L2
section
variable {K : PySem.W.Frag} {mg : Str → Option Value} {W : WX} {N0 : Addr → Prop} {H0 : Hp} {O : Own} {H : Hp} {σ : St} {ρ : Env} {D : Ends}
theorem put_gen {κ : Type} [DecidableEq κ] (f : κ → Val) (hf : ∀ a b, (f a).eqv (f b) = decide (a = b)) {N : Addr → Prop} {k : κ} {z : V} {v : Val} (rz : Rep K N H z v) {kvs : List (κ × V)} {ws : List Val} (r : Reps K N H (kvs.map (·.2)) ws) :
    (putK kvs k z).map (fun p => f p.1) = (putV (kvs.map fun p => f p.1) ws (f k) v).1 ∧ Reps K N H ((putK kvs k z).map (·.2)) (putV (kvs.map fun p => f p.1) ws (f k) v).2 ∧ (putV (kvs.map fun p => f p.1) ws (f k) v).2.length ≤ ws.length + 1 := by
  have e1 : (kvs.map fun p => f p.1).any (fun y => y.eqv (f k)) = kvs.any fun kv => decide (kv.1 = k) := by
    rw [List.any_map]
    congr 1
    funext p
    exact hf p.1 k
  have rl := r.length
  unfold putK putV
  rw [e1]
  by_cases q : (kvs.any fun kv => decide (kv.1 = k)) = true
  · rw [if_pos q, if_pos q]
    have main : ∀ {kvs : List (κ × V)} {ws : List Val}, Reps K N H (kvs.map (·.2)) ws → Reps K N H ((kvs.map fun kv => if kv.1 = k then (kv.1, z) else kv).map (·.2)) (reV (kvs.map fun p => f p.1) ws (f k) v) ∧ (reV (kvs.map fun p => f p.1) ws (f k) v).length ≤ ws.length := by
      intro kvs
      induction kvs with
      | nil =>
        intro ws r
        cases r
        exact ⟨.nil, Nat.le_refl _⟩
      | cons p kvs ih =>
        intro ws r
        cases r with
        | cons h t =>
          obtain ⟨i1, i2⟩ := ih t
          refine ⟨?_, Nat.succ_le_succ i2⟩
          show Reps K N H ((if p.1 = k then (p.1, z) else p).2 :: _) ((if (f p.1).eqv (f k) = true then v else _) :: _)
          rw [hf]
          by_cases q : p.1 = k
          · rw [if_pos q, if_pos (decide_eq_true q)]
            exact .cons rz i1
          · rw [if_neg q, if_neg (by rw [decide_eq_false q]; exact Bool.false_ne_true)]
            exact .cons h i1
    obtain ⟨m1, m2⟩ := main r
    refine ⟨?_, m1, Nat.le_succ_of_le m2⟩
    rw [List.map_map]
    refine List.map_congr_left fun p _ => ?_
    show f (if p.1 = k then (p.1, z) else p).1 = f p.1
    split <;> rfl
  · rw [if_neg q, if_neg q]
    refine ⟨by rw [List.map_append]; rfl, ?_, by rw [List.length_append]; exact Nat.le_refl _⟩
    rw [List.map_append]
    exact r.append (.cons rz .nil)
/-- the slot of an own thing told anew -/
theorem EnvR.writeO {i : Nat} {a : Addr} {ob ob' : HO} {s' : Slot} (er : EnvR K N0 H0 O H σ ρ) (hs : σ[i]? = some (some (.ref a))) (h : H a = some ob) (hn : ¬ sturdy ob) (o : O a = some i) (r : Frm N0 [i] O H O (upd H a ob') → SlotR K N0 O (upd H a ob') i s' (some (some (.ref a)))) :
    EnvR K N0 H0 O (upd H a ob') σ (ρ.set i s') ∧ Ext N0 O H O (upd H a ob') := by
  have f : Frm N0 [i] O H O (upd H a ob') := .write o h hn
  refine ⟨er.frm f (fun b j ob => ⟨(er.o0 b j ob).1, f.l b (er.o0 b j ob).2⟩) (by rw [List.length_set]; exact er.len) (fun j s hj => ?_) (fun b ob hb => ?_), [i], f⟩
  · rw [List.getElem?_set] at hj
    by_cases q : i = j
    · subst q
      rw [if_pos rfl] at hj
      split at hj
      · cases hj
        rw [hs]
        exact .inr (r f)
      · cases hj
    · rw [if_neg q] at hj
      exact .inl ⟨by rw [List.mem_singleton]; exact fun z => q z.symm, hj, rfl⟩
  · have hne : b ≠ a := fun z => by
      rw [z, (er.o0 a i o).1] at hb
      cases hb
    rw [upd_ne hne]
    exact er.s0 b ob hb
/-- a new thing made the own of a slot -/
theorem EnvR.takeO {i : Nat} {a : Addr} {ob : HO} {s' : Slot} (er : EnvR K N0 H0 O H σ ρ) (hn : H a = none) (r : SlotR K N0 (setO O a i) (upd H a ob) i s' (some (some (.ref a)))) :
    EnvR K N0 H0 (setO O a i) (upd H a ob) (σ.set i (some (.ref a))) (ρ.set i s') ∧ Ext N0 O H (setO O a i) (upd H a ob) := by
  have s : Same H (upd H a ob) := same_upd hn
  have f : Frm N0 [] O H (setO O a i) (upd H a ob) := .take s hn
  refine ⟨er.frm f (fun b j ob => ?_) (by rw [List.length_set, List.length_set]; exact er.len) (fun j t hj => ?_) (er.s0.trans s), [], f⟩
  · by_cases z : b = a
    · subst z
      exact ⟨er.s0.free hn, some_ne upd_same⟩
    · rw [setO_ne z] at ob
      exact ⟨(er.o0 b j ob).1, f.l b (er.o0 b j ob).2⟩
  · rw [List.getElem?_set] at hj ⊢
    by_cases q : i = j
    · subst q
      rw [if_pos rfl] at hj ⊢
      split at hj
      · rename_i hlt
        cases hj
        rw [er.len, if_pos hlt]
        exact .inr r
      · cases hj
    · rw [if_neg q] at hj ⊢
      exact .inl ⟨List.not_mem_nil, hj, rfl⟩
theorem den_odict {i : Nat} {k : Bool} {n : Nat} (er : EnvR K N0 H0 O H σ ρ) (h : Acc K mg W N0 H0 O H D (evS n (.odict i k) ρ)) : tAsg (rd K mg W (.dict k)).1 (gName i) D σ H := by
  cases k with
  | true =>
    intro p hp
    obtain ⟨e, x⟩ := er.takeO (i := i) (ob := .dK []) (s' := .odct true [] []) hp (.odK (kvs := []) upd_same setO_same rfl (Nat.zero_le _) .nil)
    exact h _ _ _ e x
  | false =>
    intro p hp
    obtain ⟨e, x⟩ := er.takeO (i := i) (ob := .dT []) (s' := .odct false [] []) hp (.odT (kvs := []) upd_same setO_same ⟨fun p h => absurd h List.not_mem_nil, rfl⟩ (Nat.zero_le _) .nil)
    exact h _ _ _ e x
theorem den_setd {m : Md} {i : Nat} {ke e : E} {n : Nat} (hw : wf e = true) (hk : wf ke = true) (er : EnvR K N0 H0 O H σ ρ) (h : Acc K mg W N0 H0 O H D (evS n (.setd m i ke e) ρ)) : tAsg (rd K mg W e).1 (gSub (tVar i) (rd K mg W ke).1 rSetD) D σ H := by
  have hc : cap < sizeLine := by decide
  refine acc_store (m := m) hw er h fun v z H1 s1 r _ b => ?_
  obtain ⟨kv, e1, b⟩ := acc_some b
  obtain ⟨kb, ks, ws⟩ := kv
  have er1 := er.same s1
  have b := b.mono (.same s1)
  have hi : ρ[i]? = some (.odct kb ks ws) := by
    cases q : ρ[i]? with
    | none =>
      rw [q] at e1
      cases e1
    | some s =>
      rw [q] at e1
      cases s <;> first | (cases e1; done) | (cases e1; rfl)
  have sl := er1.at' i _ hi
  generalize hx : σ[i]? = x at sl
  cases sl with
  | @odK a kvs _ _ h1 o hk1 hl rr =>
    refine ⟨_, hx, acc_store (m := .pure) hk er1 b fun kk y H2 s2 ry _ b2 => ?_⟩
    have b2 := b2.mono (.same s2)
    split at b2
    · rename_i hq
      obtain ⟨q1, q2⟩ := hq
      obtain ⟨key, rfl, rfl⟩ := key_of ry q2
      subst hk1
      have er2 := er1.same s2
      have h2 := s2 _ _ h1
      obtain ⟨p1, p2, p3⟩ := put_gen (k := key) keyV eqv_key (r.same s2) (rr.same s2)
      have lk : kvs.length < sizeLine := by
        have : (kvs.map fun p => keyV p.1).length < cap := q1
        rw [List.length_map] at this
        omega
      have lw : ws.length < cap := by
        have h3 := rr.length
        have : (kvs.map fun p => keyV p.1).length < cap := q1
        rw [List.length_map] at h3 this
        omega
      refine ⟨a, upd H2 a (.dK (putK kvs key z)), rfl, DPut.k h2 lk, ?_⟩
      obtain ⟨e4, x4⟩ := er2.writeO (i := i) (ob' := .dK (putK kvs key z)) (s' := .odct true (putV (kvs.map fun p => keyV p.1) ws (keyV key) v).1 (putV (kvs.map fun p => keyV p.1) ws (keyV key) v).2) hx h2 (fun z => z) o fun f => .odK upd_same o p1.symm (by omega) (f.keeps p2)
      exact b2 _ _ _ e4 x4
    · exact b2.elim
  | @odT a kvs _ _ h1 o hk1 hl rr =>
    refine ⟨_, hx, acc_store (m := .pure) hk er1 b fun kk y H2 s2 ry _ b2 => ?_⟩
    have b2 := b2.mono (.same s2)
    split at b2
    · rename_i hq
      obtain ⟨q1, q2⟩ := hq
      have hkl : ∃ us : List Val, kk = .tup us ∧ us.length ≤ cap := by
        cases ry with
        | tup _ hl _ => exact ⟨_, rfl, hl⟩
        | _ => exact nomatch q2
      obtain ⟨key, c, rfl, hb, rfl⟩ := keyT_of ry q2
      obtain ⟨hk2, hk1⟩ := hk1
      subst hk1
      have er2 := er1.same s2
      have h2 := s2 _ _ h1
      obtain ⟨p1, p2, p3⟩ := put_gen (k := key) (fun l : List Key => Val.tup (l.map keyV)) (fun a b => eqvs_key a b) (r.same s2) (rr.same s2)
      have lk : kvs.length < sizeLine := by
        have : (kvs.map fun p => Val.tup (p.1.map keyV)).length < cap := q1
        rw [List.length_map] at this
        omega
      have lw : ws.length < cap := by
        have h3 := rr.length
        have : (kvs.map fun p => Val.tup (p.1.map keyV)).length < cap := q1
        rw [List.length_map] at h3 this
        omega
      have lkey : key.length ≤ cap := by
        obtain ⟨us, e, hl⟩ := hkl
        injection e with e
        rw [← e, List.length_map] at hl
        exact hl
      have all : ∀ p ∈ putK kvs key z, p.1.length ≤ cap := fun p hp => by
        unfold putK at hp
        split at hp
        · obtain ⟨p', hp', e⟩ := List.mem_map.mp hp
          subst e
          split
          · exact hk2 p' hp'
          · exact hk2 p' hp'
        · rcases List.mem_append.mp hp with w | w
          · exact hk2 p w
          · rw [List.mem_singleton.mp w]
            exact lkey
      refine ⟨a, upd H2 a (.dT (putK kvs key z)), rfl, DPut.t h2 hb lk, ?_⟩
      obtain ⟨e4, x4⟩ := er2.writeO (i := i) (ob' := .dT (putK kvs key z)) (s' := .odct false (putV (kvs.map fun p => Val.tup (p.1.map keyV)) ws (.tup (key.map keyV)) v).1 (putV (kvs.map fun p => Val.tup (p.1.map keyV)) ws (.tup (key.map keyV)) v).2) hx h2 (fun z => z) o fun f => .odT upd_same o ⟨all, p1.symm⟩ (by omega) (f.keeps p2)
      exact b2 _ _ _ e4 x4
    · exact b2.elim
end
end Lh
set_option Elab.async false
set_option linter.all false
set_option maxRecDepth 100000
set_option maxHeartbeats 8000000
namespace Lh
open PySem L2
section
variable {K : PySem.W.Frag} {mg : Str → Option Value} {W : WX} {N0 : Addr → Prop} {H0 : Hp} {O : Own} {H : Hp} {σ : St} {ρ : Env} {D : Ends}
theorem ContR.more {N N' : Addr → Prop} {a : Addr} {c : Cont} (hn : ∀ b, N b → N' b) (r : ContR K N H a c) : ContR K N' H a c := by
  cases r with
  | lst h hl r => exact .lst h hl (r.more hn)
  | dK h hk hl r => exact .dK h hk hl (r.more hn)
  | obj h hm hp r => exact .obj h hm hp (r.more hn)
theorem ContR.same {N : Addr → Prop} {H' : Hp} {a : Addr} {c : Cont} (s : Same H H') (r : ContR K N H a c) : ContR K N H' a c := by
  cases r with
  | lst h hl r => exact .lst (s _ _ h) hl (r.same s)
  | dK h hk hl r => exact .dK (s _ _ h) hk hl (r.same s)
  | obj h hm hp r => exact .obj (s _ _ h) hm hp (r.same s)
/-- arguments with one put in that stands for itself -/
theorem args_ins {x : E} {Hb : Hp} {N : Addr → Prop} {R : V → Hp → Prop} (hR : ∀ v H H', Same H H' → R v H → R v H') (hx : ∀ H1 Q, Same Hb H1 → (∀ v H2, Same H1 H2 → R v H2 → Q v H2) → (rd K mg W x).1 σ H1 Q) :
    ∀ (j : Nat) (es : Es) (H : Hp) (ws : List Val) (Q : List V → Hp → Prop), Same Hb H → wfs es = true → Fr H N → Ev K N H σ ρ → evEs es ρ = .ok ws → (∀ us v H', Same H H' → Reps K N H' us ws → R v H' → Q (insA j v us) H') → rdEs K mg W (insX j x es) σ H Q
  | 0, es, H, ws, Q, sb, w, f, e, he, k => by
    refine hx H _ sb fun v H2 s2 r2 => ?_
    exact (dens W es w).ok N H2 σ ρ ws _ (f.same s2) (e.same s2) he fun us H3 s3 r3 => k us v H3 (s2.trans s3) r3 (hR _ _ _ s3 r2)
  | j + 1, .cons a es, H, ws, Q, sb, w, f, e, he, k => by
    have w' : (wf a && wfs es) = true := w
    rw [Bool.and_eq_true] at w'
    obtain ⟨u, h1, he⟩ := bind_ok (show (evE a ρ).bind _ = .ok ws from he)
    obtain ⟨us, h2, he⟩ := bind_ok he
    cases he
    refine (den W a w'.1).1.ok N H σ ρ u _ f e h1 fun z H1 s1 r1 _ => ?_
    refine args_ins hR hx j es H1 us _ (sb.trans s1) w'.2 (f.same s1) (e.same s1) h2 fun zs v H2 s2 r2 rv => ?_
    exact k (z :: zs) v H2 (s1.trans s2) (.cons (r1.same s2) r2) rv
  | j + 1, .nil, H, ws, Q, sb, w, f, e, he, k => by
    have he' : Res.ok ([] : List Val) = .ok ws := he
    cases he'
    refine hx H _ sb fun v H2 s2 r2 => ?_
    exact k [] v H2 s2 .nil r2
theorem args_insX {x : E} {Hb : Hp} {N : Addr → Prop} {R : V → Hp → Prop} {c : Str} (hR : ∀ v H H', Same H H' → R v H → R v H') (hx : ∀ H1 Q, Same Hb H1 → (∀ v H2, Same H1 H2 → R v H2 → Q v H2) → (rd K mg W x).1 σ H1 Q) :
    ∀ (j : Nat) (es : Es) (H : Hp) (Q : List V → Hp → Prop), Same Hb H → wfs es = true → Fr H N → Ev K N H σ ρ → evEs es ρ = .exc c → ExcW mg W σ H c → rdEs K mg W (insX j x es) σ H Q
  | 0, es, H, Q, sb, w, f, e, he, k => by
    refine hx H _ sb fun v H2 s2 r2 => ?_
    exact (dens W es w).exc N H2 σ ρ c _ (f.same s2) (e.same s2) he (k.same s2)
  | j + 1, .cons a es, H, Q, sb, w, f, e, he, k => by
    have w' : (wf a && wfs es) = true := w
    rw [Bool.and_eq_true] at w'
    rcases bind_exc (show (evE a ρ).bind _ = .exc c from he) with he | ⟨u, h1, he⟩
    · exact (den W a w'.1).1.exc N H σ ρ c _ f e he k
    · refine (den W a w'.1).1.ok N H σ ρ u _ f e h1 fun z H1 s1 r1 _ => ?_
      rcases bind_exc he with he | ⟨us, h2, he⟩
      · exact args_insX hR hx j es H1 _ (sb.trans s1) w'.2 (f.same s1) (e.same s1) he (k.same s1)
      · exact nomatch he
  | j + 1, .nil, H, Q, sb, w, f, e, he, k => by
    have he' : Res.ok ([] : List Val) = .exc c := he
    cases he'
/-- an object by its slot -/
theorem cont_at {i : Nat} {ct : Cont} (er : EnvR K N0 H0 O H σ ρ) (h : contOf ρ[i]? = some ct) : ∃ a, σ[i]? = some (some (.ref a)) ∧ O a = some i ∧ ContR K (Nf N0 O) H a ct ∧
    ∀ (O' : Own) (H' : Hp) (ct' : Cont) (s : Slot), ContR K (Nf N0 O') H' a ct' → O' a = some i → putC ρ[i]? ct' = some s → SlotR K N0 O' H' i s (some (some (.ref a))) := by
  cases q : ρ[i]? with
  | none =>
    rw [q] at h
    cases h
  | some s =>
    rw [q] at h
    have r := er.at' i s q
    generalize hx : σ[i]? = x at r
    cases r with
    | own h1 o hl r =>
      cases h
      refine ⟨_, rfl, o, .lst h1 hl r, fun O' H' ct' s c o' e => ?_⟩
      cases c with
      | lst h1 hl r =>
        cases e
        exact .own h1 o' hl r
      | _ => exact nomatch e
    | odK h1 o hk hl r =>
      cases h
      refine ⟨_, rfl, o, .dK h1 hk hl r, fun O' H' ct' s c o' e => ?_⟩
      cases c with
      | dK h1 hk hl r =>
        cases e
        exact .odK h1 o' hk hl r
      | _ => exact nomatch e
    | obj c o =>
      cases h
      refine ⟨_, rfl, o, c, fun O' H' ct' s c o' e => ?_⟩
      cases ct' with
      | obj nm fs =>
        cases e
        exact .obj c o'
      | _ => exact nomatch e
    | io c o =>
      cases h
      refine ⟨_, rfl, o, c, fun O' H' ct' s c o' e => ?_⟩
      cases e
      exact .io c o'
    | _ => exact nomatch h
/-- what is at an own address changes -/
theorem Frm.sameX {a : Addr} {i : Nat} {H' : Hp} (oa : O a = some i) (hs : ∀ o, H a = some o → ¬ sturdy o) (sx : SameX a H H') (hl : H' a ≠ none) : Frm N0 [i] O H O H' :=
  ⟨fun b o hb hh => by
    refine sx b o (fun z => ?_) hb
    subst z
    rcases hh with hh | hh
    · rw [hh.2] at oa
      cases oa
    · exact hs o hb hh, fun _ _ h => h, fun b j hj ob hb => by
    have hne : b ≠ a := fun z => by
      subst z
      rw [oa] at ob
      cases ob
      exact hj (List.mem_singleton.mpr rfl)
    refine ⟨?_, ob⟩
    cases e : H b with
    | none => exact absurd e hb
    | some o => exact sx b o hne e, fun b hb => by
    by_cases z : b = a
    · rw [z]
      exact hl
    · cases e : H b with
      | none => exact absurd e hb
      | some o => exact some_ne (sx b o z e)⟩
theorem EnvR.putX {i : Nat} {a : Addr} {H' : Hp} {s : Slot} (er : EnvR K N0 H0 O H σ ρ) (hs : σ[i]? = some (some (.ref a))) (oa : O a = some i) (hn : ∀ o, H a = some o → ¬ sturdy o) (sx : SameX a H H') (hl : H' a ≠ none) (r : SlotR K N0 O H' i s (some (some (.ref a)))) :
    EnvR K N0 H0 O H' σ (ρ.set i s) ∧ Ext N0 O H O H' := by
  have f : Frm N0 [i] O H O H' := .sameX oa hn sx hl
  refine ⟨er.frm f (fun b j ob => ⟨(er.o0 b j ob).1, f.l b (er.o0 b j ob).2⟩) (by rw [List.length_set]; exact er.len) (fun j t hj => ?_) (fun b ob hb => ?_), [i], f⟩
  · rw [List.getElem?_set] at hj
    by_cases q : i = j
    · subst q
      rw [if_pos rfl] at hj
      split at hj
      · cases hj
        rw [hs]
        exact .inr r
      · cases hj
    · rw [if_neg q] at hj
      exact .inl ⟨by rw [List.mem_singleton]; exact fun z => q z.symm, hj, rfl⟩
  · exact sx b ob (fun z => by
      rw [z, (er.o0 a i oa).1] at hb
      cases hb) (er.s0 b ob hb)
/-- the marks within such a call -/
def NxA (N : Addr → Prop) (a : Addr) : Addr → Prop := fun b => N b ∨ b = a
theorem nx_in {N : Addr → Prop} {a b : Addr} (ha : ¬ N a) : (NxA N a b ∧ b ≠ a) ↔ N b :=
  ⟨fun h => h.1.resolve_right h.2, fun h => ⟨.inl h, fun z => ha (by rw [← z]; exact h)⟩⟩
theorem nf_own {a : Addr} {i : Nat} (o : O a = some i) : ¬ Nf N0 O a := fun h => by
  rw [h.2] at o
  cases o
/-- the promise taken, at an own object -/
theorem promise {j : Nat} {F : List Val → Cont → OutM} {i : Nat} {a : Addr} {us : List V} {ws : List Val} {ct : Cont} {Q : VK} {E : XK} (er : EnvR K N0 H0 O H σ ρ) (hs : σ[i]? = some (some (.ref a))) (oa : O a = some i) (rc : ContR K (Nf N0 O) H a ct) (ru : Reps K (Nf N0 O) H us ws)
    (hq : (∃ v ct', F ws ct = .ok v ct' ∧ ∀ z H', SameX a H H' → Rep K (Nf N0 O) H' z v → v.pure = true → ContR K (Nf N0 O) H' a ct' → Q z H') ∨ ∃ c ct', F ws ct = .exc c ct' ∧ ∀ C H', SameX a H H' → ContR K (Nf N0 O) H' a ct' → mg c = some (.ref C) → E (.ref C) none H') :
    PSpM K mg j F (insA j (.ref a) us) H Q E := by
  have na := nf_own (N0 := N0) oa
  have up : ∀ b, Nf N0 O b → NxA (Nf N0 O) a b ∧ b ≠ a := fun b h => (nx_in na).mpr h
  have dn : ∀ b, NxA (Nf N0 O) a b ∧ b ≠ a → Nf N0 O b := fun b h => (nx_in na).mp h
  refine ⟨NxA (Nf N0 O) a, us, ws, a, ct, rfl, fun b hb => .inl (er.fr b hb), .inr rfl, ru.more up, rc.more up, ?_⟩
  rcases hq with ⟨v, ct', h1, h2⟩ | ⟨c, ct', h1, h2⟩
  · exact .inl ⟨v, ct', h1, fun z H' sx r hp rc' => h2 z H' sx (r.more dn) hp (rc'.more dn)⟩
  · exact .inr ⟨c, ct', h1, fun C H' sx rc' m => h2 C H' sx (rc'.more dn) m⟩
theorem call_Mf {c : MC} {k : Val → Env → Out} {Q : VK} (w : wfs c.es = true) (er : EnvR K N0 H0 O H σ ρ) (h : Acc K mg W N0 H0 O H D (evM c ρ k))
    (hk : ∀ v z H' ρ', EnvR K N0 H0 O H' σ ρ' → Frm N0 [c.i] O H O H' → v.pure = true → Rep K (Nf N0 O) H' z v → Acc K mg W N0 H0 O H' D (k v ρ') → Q z H') : rdMC K mg W c σ H Q := by
  obtain ⟨ct, e1, h⟩ := acc_some h
  obtain ⟨a, hs, oa, rc, back⟩ := cont_at er e1
  split at h
  · exact h.elim
  rename_i hm
  -- behind the arguments
  have fin : ∀ (ws : List Val) (us : List V) (H1 : Hp), evEs c.es (eraseM ρ) = .ok ws → Same H H1 → Reps K (Nf N0 O) H1 us ws → ∀ j, PSpM K mg j c.F (insA j (.ref a) us) H1 Q (WE W σ) := fun ws us H1 e2 s1 ru j => by
    rw [e2] at h
    have er1 := er.same s1
    have h := Acc.mono (.same s1) h
    have rc1 := rc.same s1
    have oa1 := oa
    have h : Acc K mg W N0 H0 O H1 D (match c.F ws ct with
      | .ok v ct' => if v.pure then asO (putC ρ[c.i]? ct') fun s => k v (ρ.set c.i s) else .stuck
      | .exc x ct' => asO (putC ρ[c.i]? ct') fun s => .exc x (ρ.set c.i s)
      | .stuck => .stuck) := h
    cases hF : c.F ws ct with
    | ok v ct' =>
      rw [hF] at h
      simp only at h
      split at h
      · rename_i hp
        obtain ⟨s, e3, h⟩ := acc_some h
        refine promise er1 hs oa rc1 ru (.inl ⟨v, ct', hF, fun z H' sx r _ rc' => ?_⟩)
        obtain ⟨er2, x2⟩ := er1.putX hs oa rc1.live.2 sx rc'.live.1 (back O H' ct' s rc' oa e3)
        have f2 : Frm N0 [c.i] O H O H' := (Frm.of_same s1).trans (.sameX oa rc1.live.2 sx rc'.live.1)
        exact hk v z H' _ er2 f2 hp r (h.mono x2)
      · exact h.elim
    | exc x ct' =>
      rw [hF] at h
      obtain ⟨s, e3, h⟩ := acc_some h
      refine promise er1 hs oa rc1 ru (.inr ⟨x, ct', hF, fun C H' sx rc' m => ?_⟩)
      obtain ⟨er2, x2⟩ := er1.putX hs oa rc1.live.2 sx rc'.live.1 (back O H' ct' s rc' oa e3)
      exact h C O H' σ er2 x2 m
    | stuck =>
      rw [hF] at h
      exact h.elim
  have bad : ∀ x, evEs c.es (eraseM ρ) = .exc x → ExcW mg W σ H x := fun x e2 => by
    rw [e2] at h
    exact Acc.excW er h
  have nst : evEs c.es (eraseM ρ) ≠ .stuck := fun e2 => by
    rw [e2] at h
    exact h.elim
  unfold rdMC
  cases hk' : c.k with
  | fn =>
    show tCallS (PSpM K mg c.j c.F) (WE W) (rdEs K mg W (insX c.j (.var c.i) c.es)) σ H Q
    have hx : ∀ H1 Q, Same H H1 → (∀ v H2, Same H1 H2 → v = V.ref a → Q v H2) → (rd K mg W (.var c.i)).1 σ H1 Q := fun H1 Q s q => ⟨_, hs, q _ H1 (Same.refl _) rfl⟩
    cases e2 : evEs c.es (eraseM ρ) with
    | ok ws =>
      refine args_ins (R := fun v _ => v = V.ref a) (fun _ _ _ _ h => h) hx c.j c.es H ws _ (Same.refl H) w er.fr er.ev e2 fun us v H1 s1 ru ev => ?_
      subst ev
      exact fin ws us H1 e2 s1 ru c.j
    | exc x => exact args_insX (R := fun v _ => v = V.ref a) (fun _ _ _ _ h => h) hx c.j c.es H _ (Same.refl H) w er.fr er.ev e2 (bad x e2)
    | stuck => exact absurd e2 nst
  | meth =>
    show L2H.tMethH (C0 K) c.m (PSpM K mg 0 c.F) (WE W) (tVar c.i) (rdEs K mg W c.es) σ H Q
    refine ⟨_, hs, ?_⟩
    cases rc with
    | lst h1 hl r =>
      exfalso
      apply hm
      unfold mOk
      rw [hk']
    | dK h1 hq hl r =>
      exfalso
      apply hm
      unfold mOk
      rw [hk']
    | @obj dx fl nm wsf h1 hq hp r =>
      have hno : c.m ∉ nm := fun z => hm (by
        unfold mOk
        rw [hk']
        exact decide_eq_false (fun y => y z))
      rw [hq] at hno
      refine ⟨a, dx, fl, rfl, h1, look_no hno, ?_⟩
      cases e2 : evEs c.es (eraseM ρ) with
      | ok ws => exact (dens W c.es w).ok (Nf N0 O) H σ (eraseM ρ) ws _ er.fr er.ev e2 fun us H1 s1 ru => fin ws us H1 e2 s1 ru 0
      | exc x => exact (dens W c.es w).exc (Nf N0 O) H σ (eraseM ρ) x _ er.fr er.ev e2 (bad x e2)
      | stuck => exact absurd e2 nst
theorem call_M {c : MC} {k : Val → Env → Out} {Q : VK} (w : wfs c.es = true) (er : EnvR K N0 H0 O H σ ρ) (h : Acc K mg W N0 H0 O H D (evM c ρ k))
    (hk : ∀ v z H' ρ', EnvR K N0 H0 O H' σ ρ' → Ext N0 O H O H' → v.pure = true → Rep K (Nf N0 O) H' z v → Acc K mg W N0 H0 O H' D (k v ρ') → Q z H') : rdMC K mg W c σ H Q :=
  call_Mf w er h fun v z H' ρ' e f p r a => hk v z H' ρ' e ⟨_, f⟩ p r a
theorem den_callM {d : Option Nat} {c : MC} {n : Nat} (w : wfs c.es = true) (er : EnvR K N0 H0 O H σ ρ) (h : Acc K mg W N0 H0 O H D (evS n (.callM d c) ρ)) : rdS K mg W (.callM d c) D σ H := by
  cases d with
  | none => exact call_M (k := fun v ρ' => .nx ρ') w er h fun v z H' ρ' er' x hp r a => a O H' σ er' .refl
  | some d =>
    refine call_M (k := fun v ρ' => if d = c.i then .stuck else .nx (ρ'.set d (.val v))) w er h fun v z H' ρ' er' x hp r a => ?_
    split at a
    · exact a.elim
    · exact a O H' _ (er'.set r) .refl
theorem den_callM2 {d : Nat} {q : E} {c1 c2 : MC} {n : Nat} (wq : wf q = true) (tq : tst q = true) (w1 : wfs c1.es = true) (w2 : wfs c2.es = true) (er : EnvR K N0 H0 O H σ ρ) (h : Acc K mg W N0 H0 O H D (evS n (.callM2 d q c1 c2) ρ)) : rdS K mg W (.callM2 d q c1 c2) D σ H := by
  refine acc_test (f := fun k0 => if k0 then evM c1 ρ fun v ρ' => (if d = c1.i then .stuck else .nx (ρ'.set d (.val v))) else evM c2 ρ fun v ρ' => (if d = c2.i then .stuck else .nx (ρ'.set d (.val v)))) wq tq er h fun b H1 s1 h => ?_
  cases b with
  | true =>
    refine call_M (k := fun v ρ' => if d = c1.i then .stuck else .nx (ρ'.set d (.val v))) w1 (er.same s1) h fun v z H' ρ' er' x hp r a => ?_
    split at a
    · exact a.elim
    · exact a O H' _ (er'.set r) .refl
  | false =>
    refine call_M (k := fun v ρ' => if d = c2.i then .stuck else .nx (ρ'.set d (.val v))) w2 (er.same s1) h fun v z H' ρ' er' x hp r a => ?_
    split at a
    · exact a.elim
    · exact a O H' _ (er'.set r) .refl
theorem putF_reps {N : Addr → Prop} {f : Str} {y : V} {v : Val} (ry : Rep K N H y v) (hv : v.pure = true) : ∀ {fl : List (Str × V)} {ws : List Val}, Reps K N H (fl.map (·.2)) ws → Val.pures ws = true → (putF f y fl).map (·.1) = (putFs (fl.map (·.1)) ws f v).1 ∧ Reps K N H ((putF f y fl).map (·.2)) (putFs (fl.map (·.1)) ws f v).2 ∧ Val.pures (putFs (fl.map (·.1)) ws f v).2 = true
  | [], _, .nil, _ => ⟨rfl, .cons ry .nil, by
    show (v.pure && true) = true
    rw [hv]
    rfl⟩
  | (g, x) :: r, _, @Reps.cons _ _ _ _ _ w ws h t, hp => by
    have hp' : (w.pure && Val.pures ws) = true := hp
    rw [Bool.and_eq_true] at hp'
    show (if g = f then (g, y) :: r else (g, x) :: putF f y r).map (·.1) = (if g = f then (g :: r.map (·.1), v :: ws) else (g :: (putFs (r.map (·.1)) ws f v).1, w :: (putFs (r.map (·.1)) ws f v).2)).1 ∧
      Reps K N H ((if g = f then (g, y) :: r else (g, x) :: putF f y r).map (·.2)) (if g = f then (g :: r.map (·.1), v :: ws) else (g :: (putFs (r.map (·.1)) ws f v).1, w :: (putFs (r.map (·.1)) ws f v).2)).2 ∧
      Val.pures (if g = f then (g :: r.map (·.1), v :: ws) else (g :: (putFs (r.map (·.1)) ws f v).1, w :: (putFs (r.map (·.1)) ws f v).2)).2 = true
    by_cases e : g = f
    · rw [if_pos e, if_pos e]
      refine ⟨rfl, .cons ry t, ?_⟩
      show (v.pure && Val.pures ws) = true
      rw [hv, hp'.2]
      rfl
    · rw [if_neg e, if_neg e]
      obtain ⟨i1, i2, i3⟩ := putF_reps ry hv t hp'.2
      refine ⟨congrArg (g :: ·) i1, .cons h i2, ?_⟩
      show (w.pure && _) = true
      rw [hp'.1, i3]
      rfl
theorem cont_of_flds {o : Option Slot} {p : List Str × List Val} {s : Slot} {ct : Cont} (h : flds o = some p) (q : putC o ct = some s) : contOf o = some (.obj p.1 p.2) := by
  cases o with
  | none => exact nomatch h
  | some t =>
    cases t with
    | val v => exact nomatch q
    | obj nm fs =>
      cases h
      rfl
    | io t c =>
      cases c with
      | obj nm fs =>
        cases h
        rfl
      | _ => exact nomatch h
    | eob nm fs => exact nomatch q
    | _ => exact nomatch h
theorem acc_storeP {e : E} {f : Val → Out} {Q : VK} (hw : wf e = true) (er : EnvR K N0 H0 O H σ ρ) (h : Acc K mg W N0 H0 O H D ((storeV .pure e ρ).out ρ f))
    (k : ∀ v z H', Same H H' → Rep K (Nf N0 O) H' z v → v.pure = true → Acc K mg W N0 H0 O H' D (f v) → Q z H') : (rd K mg W e).1 σ H Q := by
  cases hv : storeV .pure e ρ with
  | ok v =>
    rw [hv] at h
    have hp : v.pure = true := by
      obtain ⟨u, _, h2⟩ := bind_ok (show (evE e ρ).bind _ = .ok v from hv)
      split at h2
      · rename_i hp
        cases h2
        exact hp
      · exact nomatch h2
    exact store_ok hw er hv fun z H' s r _ => k v z H' s r hp (h.mono (.same s))
  | exc c =>
    rw [hv] at h
    exact store_exc hw er hv (h.excW er)
  | stuck =>
    rw [hv] at h
    exact h.elim
theorem den_setA {i : Nat} {f : Str} {e : E} {n : Nat} (w : wf e = true) (er : EnvR K N0 H0 O H σ ρ) (h : Acc K mg W N0 H0 O H D (evS n (.setA i f e) ρ)) : rdS K mg W (.setA i f e) D σ H := fun ok => by
  refine acc_storeP (f := fun v => asO (flds ρ[i]?) fun p => if p.1.length < 900 then asO (putC ρ[i]? (.obj (putFs p.1 p.2 f v).1 (putFs p.1 p.2 f v).2)) fun s => .nx (ρ.set i s) else .stuck) w er h fun v z H1 s1 r hv h => ?_
  obtain ⟨⟨nm, wsf⟩, e1, h⟩ := acc_some h
  split at h
  · rename_i hlen
    obtain ⟨s, e2, h⟩ := acc_some h
    have er1 := er.same s1
    obtain ⟨a, hs, oa, rc, back⟩ := cont_at er1 (cont_of_flds e1 e2)
    have live := rc.live
    cases rc with
    | @obj dx fl _ _ h1 hq hp rr =>
      have hq : nm = fl.map (·.1) := hq
      refine ⟨_, hs, a, C0 K, dx, fl, rfl, h1, ok.1, ok.2, ?_, ?_⟩
      · have hlen : nm.length < 900 := hlen
        rw [hq, List.length_map] at hlen
        omega
      · have f0 : Frm N0 [i] O H1 O (upd H1 a (.ins (C0 K) dx (putF f z fl))) := .write oa h1 (fun z => z)
        obtain ⟨q1, q2, q3⟩ := putF_reps r hv rr hp
        have rc' : ContR K (Nf N0 O) (upd H1 a (.ins (C0 K) dx (putF f z fl))) a (.obj (putFs nm wsf f v).1 (putFs nm wsf f v).2) := by
          rw [hq]
          exact .obj upd_same q1.symm q3 (f0.keeps q2)
        obtain ⟨er2, x2⟩ := er1.putX hs oa live.2 (fun b o hb ho => by rw [upd_ne hb]; exact ho) rc'.live.1 (back O _ _ s rc' oa e2)
        exact h O _ σ er2 x2
  · exact h.elim
theorem den_appM {i : Nat} {e : E} {n : Nat} (w : wf e = true) (er : EnvR K N0 H0 O H σ ρ) (h : Acc K mg W N0 H0 O H D (evS n (.appM i e) ρ)) : rdS K mg W (.appM i e) D σ H := by
  obtain ⟨vs, e1, h⟩ := acc_some (show Acc K mg W N0 H0 O H D (asO (lstC (contOf ρ[i]?)) fun vs => (storeV .pure e ρ).out ρ fun v => if vs.length < cap then asO (putC ρ[i]? (.lst (vs ++ [v]))) fun s => .nx (ρ.set i s) else .stuck) from h)
  have ec : contOf ρ[i]? = some (.lst vs) := by
    cases q : contOf ρ[i]? with
    | none =>
      rw [q] at e1
      cases e1
    | some c =>
      rw [q] at e1
      cases c with
      | lst _ =>
        cases e1
        rfl
      | _ => cases e1
  obtain ⟨a0, hs0, oa0, rc0, _⟩ := cont_at er ec
  cases rc0 with
  | @lst xs0 _ h0 hl0 rr0 =>
    refine ⟨_, hs0, Or.inl ⟨rfl, _, SqL.of h0⟩, ?_⟩
    refine acc_storeP (f := fun v => if vs.length < cap then asO (putC ρ[i]? (.lst (vs ++ [v]))) fun s => .nx (ρ.set i s) else .stuck) w er h fun v z H1 s1 r hv h => ?_
    split at h
    · rename_i hlt
      obtain ⟨s, e2, h⟩ := acc_some h
      have er1 := er.same s1
      obtain ⟨a, hs, oa, rc, back⟩ := cont_at er1 ec
      have ea : a = a0 := by
        rw [hs0] at hs
        cases hs
        rfl
      subst ea
      have live := rc.live
      cases rc with
      | @lst xs _ h1 hl rr =>
        have ex : xs = xs0 := by
          have := s1 _ _ h0
          rw [h1] at this
          cases this
          rfl
        subst ex
        refine ⟨a, xs, z, rfl, rfl, h1, by rw [rr.length]; exact cap_lt hlt, ?_⟩
        have f0 : Frm N0 [i] O H1 O (upd H1 a (.lst (xs ++ [z]))) := .write oa h1 (fun z => z)
        have rc' : ContR K (Nf N0 O) (upd H1 a (.lst (xs ++ [z]))) a (.lst (vs ++ [v])) := .lst upd_same (by rw [List.length_append]; exact hlt) ((f0.keeps rr).append (.cons (f0.keep r) .nil))
        obtain ⟨er2, x2⟩ := er1.putX hs oa live.2 (fun b o hb ho => by rw [upd_ne hb]; exact ho) rc'.live.1 (back O _ _ s rc' oa e2)
        exact h O _ σ er2 x2
    · exact h.elim
/-- an own list is no more changed -/
theorem den_frz {i : Nat} {n : Nat} (er : EnvR K N0 H0 O H σ ρ) (h : Acc K mg W N0 H0 O H D (evS n (.frz i) ρ)) : tNext D σ H := by
  have h : Acc K mg W N0 H0 O H D (.nx (ρ.set i (frzS ρ[i]?))) := h
  have keep : ∀ s, (s = .non ∨ ρ[i]? = some s) → Acc K mg W N0 H0 O H D (.nx (ρ.set i s)) → D.nx σ H := fun s hs h => by
    refine h O H σ (er.frm (.of_same (Same.refl H)) er.o0 (by rw [List.length_set]; exact er.len) (fun j t hj => ?_) er.s0) .refl
    rw [List.getElem?_set] at hj
    by_cases q : i = j
    · subst q
      rw [if_pos rfl] at hj
      split at hj
      · cases hj
        rcases hs with hs | hs
        · rw [hs]
          exact .inr .non
        · exact .inl ⟨List.not_mem_nil, hs, rfl⟩
      · cases hj
    · rw [if_neg q] at hj
      exact .inl ⟨List.not_mem_nil, hj, rfl⟩
  cases q : ρ[i]? with
  | none =>
    rw [q] at h
    exact keep _ (.inl rfl) h
  | some s =>
    rw [q] at h
    have r := er.at' i s q
    generalize hx : σ[i]? = x at r
    cases r with
    | val r => exact keep _ (.inr q) h
    | @own a xs ws h1 o hl r =>
      have fR : Frm N0 [i] O H (drpO O a) H := .drop o
      refine h (drpO O a) H σ (er.frm fR (fun b j ob => ?_) (by rw [List.length_set]; exact er.len) (fun j t hj => ?_) er.s0) ⟨_, fR⟩
      · unfold drpO at ob
        split at ob
        · cases ob
        · exact er.o0 b j ob
      · rw [List.getElem?_set] at hj
        by_cases q2 : i = j
        · subst q2
          rw [if_pos rfl] at hj
          split at hj
          · cases hj
            rw [hx]
            exact .inr (.val (.lst ⟨er.n0 o, if_pos rfl⟩ h1 hl (fR.keeps r)))
          · cases hj
        · rw [if_neg q2] at hj
          exact .inl ⟨by rw [List.mem_singleton]; exact fun z => q2 z.symm, hj, rfl⟩
    | _ => exact keep _ (.inl rfl) h
/-- an object made -/
theorem den_newK {d : Nat} {F : List Val → Cont → OutM} {es : Es} {n : Nat} (w : wfs es = true) (er : EnvR K N0 H0 O H σ ρ) (h : Acc K mg W N0 H0 O H D (evS n (.newK d F es) ρ)) : rdS K mg W (.newK d F es) D σ H := by
  have h : Acc K mg W N0 H0 O H D ((evEs es (eraseM ρ)).out ρ fun vs => match F vs (.obj [] []) with
    | .ok .non (.obj nm fs) => .nx (ρ.set d (.obj nm fs))
    | _ => .stuck) := h
  show tMake (C0 K) (PSpM K mg 0 F) [] tNever' (rdEs K mg W es) σ H fun x H1 => gName d x σ H1 D.nx
  cases e2 : evEs es (eraseM ρ) with
  | exc x =>
    rw [e2] at h
    exact (dens W es w).exc (Nf N0 O) H σ (eraseM ρ) x _ er.fr er.ev e2 (Acc.excW er h)
  | stuck =>
    rw [e2] at h
    exact h.elim
  | ok ws =>
    rw [e2] at h
    refine (dens W es w).ok (Nf N0 O) H σ (eraseM ρ) ws _ er.fr er.ev e2 fun us H1 s1 ru x dx nx ndx nex => ?_
    have h : Acc K mg W N0 H0 O H1 D (match F ws (.obj [] []) with
      | .ok .non (.obj nm fs) => .nx (ρ.set d (.obj nm fs))
      | _ => .stuck) := Acc.mono (.same s1) h
    have er1 := er.same s1
    have s2 : Same H1 (upd (upd H1 dx (.own x)) x (.ins (C0 K) dx [])) := fun b o e => by
      rw [upd_ne (ne_of_none e nx), upd_ne (ne_of_none e ndx)]
      exact e
    have er2 := er1.same s2
    have nfx : Nf N0 O x := er1.fr x nx
    refine ⟨Nf N0 O, us, ws, x, .obj [] [], ?_, er2.fr, nfx, ?_, .obj upd_same rfl rfl .nil, ?_⟩
    · show (V.ref x :: (us ++ [])) = insA 0 (.ref x) us
      rw [List.append_nil]
      rfl
    · exact ru.keep (fun b nb hb => ⟨nb, fun z => hb (by rw [z]; exact nx)⟩) (.of s2)
    · cases hF : F ws (.obj [] []) with
      | ok v ct' =>
        rw [hF] at h
        cases v with
        | non =>
          cases ct' with
          | obj nm fs =>
            refine .inl ⟨_, _, rfl, fun z H' sx r hp rc' => ?_⟩
            cases r
            refine ⟨rfl, ?_⟩
            have s3 : Same H1 H' := fun b o e => sx b o (ne_of_none e nx) (s2 b o e)
            have f : Frm N0 [] O H1 (setO O x d) H' := .take s3 nx
            have hsub : ∀ b, (Nf N0 O b ∧ b ≠ x) → Nf N0 (setO O x d) b := fun b hb => ⟨hb.1.1, by rw [setO_ne hb.2]; exact hb.1.2⟩
            refine h (setO O x d) H' (σ.set d (some (.ref x))) (er1.frm f (fun b j ob => ?_) (by rw [List.length_set, List.length_set]; exact er1.len) (fun j t hj => ?_) (er1.s0.trans s3)) ⟨[], f⟩
            · by_cases q : b = x
              · subst q
                exact ⟨er1.s0.free nx, rc'.live.1⟩
              · rw [setO_ne q] at ob
                exact ⟨(er1.o0 b j ob).1, f.l b (er1.o0 b j ob).2⟩
            · rw [List.getElem?_set] at hj ⊢
              by_cases q : d = j
              · subst q
                rw [if_pos rfl] at hj ⊢
                split at hj
                · rename_i hlt
                  cases hj
                  rw [er1.len, if_pos hlt]
                  exact .inr (.obj (rc'.more hsub) setO_same)
                · cases hj
              · rw [if_neg q] at hj ⊢
                exact .inl ⟨List.not_mem_nil, hj, rfl⟩
          | _ => exact h.elim
        | _ => exact h.elim
      | exc x ct' =>
        rw [hF] at h
        exact h.elim
      | stuck =>
        rw [hF] at h
        exact h.elim
/-- what a def comes to that is handed a new dict -/
theorem den_retD {x : Str} {j : Nat} {F : List Val → Cont → OutM} {es : Es} {n : Nat} (w : wfs es = true) (er : EnvR K N0 H0 O H σ ρ) (h : Acc K mg W N0 H0 O H D (evS n (.retD x j F es) ρ)) : rdS K mg W (.retD x j F es) D σ H := by
  have h : Acc K mg W N0 H0 O H D ((evEs es (eraseM ρ)).out ρ fun vs => match F vs (.dct true [] []) with
    | .ok v _ => if v.pure && Val.pures vs then .ret v else .stuck
    | _ => .stuck) := h
  show tCallS (PSpM K mg j F) (WE W) (rdEs K mg W (insX j (.dict true) es)) σ H D.rt
  obtain ⟨R, hRd⟩ : ∃ R : V → Hp → Prop, R = fun v H' => ∃ p, v = V.ref p ∧ H p = none ∧ H' p = some (.dK []) := ⟨_, rfl⟩
  have hR : ∀ v H H', Same H H' → R v H → R v H' := fun v H1 H2 s r => by
    rw [hRd] at r ⊢
    obtain ⟨p, q1, q2, q3⟩ := r
    exact ⟨p, q1, q2, s _ _ q3⟩
  have hx : ∀ H1 Q, Same H H1 → (∀ v H2, Same H1 H2 → R v H2 → Q v H2) → (rd K mg W (.dict true)).1 σ H1 Q := fun H1 Q s q p hp => q _ _ (same_upd hp) (by
    rw [hRd]
    exact ⟨p, rfl, s.free hp, upd_same⟩)
  cases e2 : evEs es (eraseM ρ) with
  | exc c =>
    rw [e2] at h
    exact args_insX hR hx j es H _ (Same.refl H) w er.fr er.ev e2 (Acc.excW er h)
  | stuck =>
    rw [e2] at h
    exact h.elim
  | ok ws =>
    rw [e2] at h
    refine args_ins hR hx j es H ws _ (Same.refl H) w er.fr er.ev e2 fun us v H1 s1 ru rv => ?_
    rw [hRd] at rv
    obtain ⟨p, rfl, hp, h1p⟩ := rv
    have h : Acc K mg W N0 H0 O H1 D (match F ws (.dct true [] []) with
      | .ok v _ => if v.pure && Val.pures ws then .ret v else .stuck
      | _ => .stuck) := Acc.mono (.same s1) h
    have er1 := er.same s1
    have nfp : Nf N0 O p := er.fr p hp
    cases hF : F ws (.dct true [] []) with
    | ok v ct' =>
      rw [hF] at h
      simp only at h
      split at h
      · rename_i hv
        rw [Bool.and_eq_true] at hv
        -- what stands for the arguments does not lean on the new dict
        have ru' : Reps K (fun b => Nf N0 O b ∧ b ≠ p) H1 us ws := ru.ofPure hv.2
        refine ⟨Nf N0 O, us, ws, p, .dct true [] [], rfl, er1.fr, nfp, ru', .dK (kvs := []) h1p rfl (Nat.zero_le _) .nil, .inl ⟨v, ct', hF, fun z H' sx r hpv rc' => ?_⟩⟩
        have s3 : Same H0 H' := fun b o e => sx b o (fun q => by
          rw [q] at e
          have := er.s0 _ _ e
          rw [hp] at this
          cases this) (er1.s0 b o e)
        exact h z H' s3 (r.ofPure hpv)
      · exact h.elim
    | exc x ct' =>
      rw [hF] at h
      exact h.elim
    | stuck =>
      rw [hF] at h
      exact h.elim
end
end Lh
set_option Elab.async false
set_option linter.all false
set_option maxRecDepth 100000
set_option maxHeartbeats 8000000
namespace Lh
open PySem L2
def maxF (es : Es) (F : List Val → Cont → OutM) (tg : Nat) (ρ : Env) (x : Val) (kv : KV) : Option (Int × KV) := match evEs es (eraseM ((ρ.set tg .non).set tg (.val x))) with
  | .ok vs => mcR (F vs (.dct true kv.1 kv.2))
  | _ => none
theorem mcR_ok {r : OutM} {q : Int × KV} (h : mcR r = some q) : r = .ok (.int q.1) (.dct true q.2.1 q.2.2) := by
  unfold mcR at h
  split at h
  · cases h
    rfl
  · cases h
theorem dctC_ok {o : Option Cont} {kv : KV} (h : dctC o = some kv) : o = some (.dct true kv.1 kv.2) := by
  unfold dctC at h
  split at h
  · cases h
    rfl
  · cases h
theorem putC_self {o : Option Slot} {c : Cont} (h : contOf o = some c) : putC o c = o := by
  unfold contOf at h
  split at h <;> first
    | (cases h; rfl)
    | cases h
theorem cont_putC {o : Option Slot} {c : Cont} {s : Slot} (h : putC o c = some s) : contOf (some s) = some c := by
  unfold putC at h
  split at h <;> first
    | (cases h; rfl)
    | cases h
theorem putC_putC {o : Option Slot} {c c' : Cont} {s s' : Slot} (h : putC o c = some s) (h' : putC (some s) c' = some s') : putC o c' = some s' := by
  cases o with
  | none => exact nomatch h
  | some t =>
    cases t with
    | own vs =>
      cases c with
      | lst ws =>
        cases h
        cases c' <;> first | exact h' | exact nomatch h'
      | _ => exact nomatch h
    | odct k ks vs =>
      cases k with
      | true =>
        cases c with
        | dct k2 ks vs =>
          cases k2 with
          | true =>
            cases h
            cases c' with
            | dct k3 _ _ => cases k3 <;> first | exact h' | exact nomatch h'
            | _ => exact nomatch h'
          | false => exact nomatch h
        | _ => exact nomatch h
      | false => cases c <;> exact nomatch h
    | obj nm fs =>
      cases c with
      | obj nm fs =>
        cases h
        cases c' <;> first | exact h' | exact nomatch h'
      | _ => exact nomatch h
    | io t c0 =>
      cases h
      exact h'
    | _ => cases c <;> exact nomatch h
theorem erase_dct {o : Slot} {kv : KV} (h : contOf (some o) = some (.dct true kv.1 kv.2)) : o.erase = .non := by
  cases o with
  | io t c =>
    cases h
    rfl
  | odct k ks vs =>
    cases k with
    | true => rfl
    | false => exact nomatch h
  | own vs => exact nomatch h
  | obj nm fs => exact nomatch h
  | _ => first | rfl | exact nomatch h
theorem colM_cons {f : Val → KV → Option (Int × KV)} {x : Val} {r : List Val} {kv : KV} {p : List Int × KV} (h : colM f (x :: r) kv = some p) : ∃ q p', f x kv = some q ∧ colM f r q.2 = some p' ∧ p = ((1 + q.1) :: p'.1, p'.2) := by
  have h' : ((f x kv).bind fun q => (colM f r q.2).map fun p => ((1 + q.1) :: p.1, p.2)) = some p := h
  obtain ⟨q, e1, h'⟩ := Option.bind_eq_some_iff.mp h'
  cases e2 : colM f r q.2 with
  | none =>
    rw [e2] at h'
    cases h'
  | some p' =>
    rw [e2] at h'
    cases h'
    exact ⟨q, p', e1, e2, rfl⟩
section
variable {K : PySem.W.Frag} {mg : Str → Option Value} {W : WX} {N0 : Addr → Prop} {H0 : Hp} {O : Own} {H : Hp} {σ : St} {ρ : Env} {D : Ends}
theorem den_setdMax {i : Nat} {ke : E} {tg : Nat} {src : E} {x0 : Str} {j : Nat} {F : List Val → Cont → OutM} {es : Es} {n : Nat} (wk : wf ke = true) (wsr : wf src = true) (we : wfs es = true) (er : EnvR K N0 H0 O H σ ρ)
    (h : Acc K mg W N0 H0 O H D (evS n (.setdMax i ke tg src x0 j F es) ρ)) : rdS K mg W (.setdMax i ke tg src x0 j F es) D σ H := by
  obtain ⟨kv, e1, h⟩ := acc_some (show Acc K mg W N0 H0 O H D (asO (dctC (contOf ρ[i]?)) fun kv => (evSrc (.seq src) (eraseM ρ)).out ρ fun items => asO (colM (maxF es F tg ρ) items kv) fun p => match storeV .pure ke ((ρ.set tg .non).set i .non) with
      | .ok k => if i ≠ tg ∧ p.2.1.length < cap ∧ keyFits true k = true then asO (putC ρ[i]? (.dct true (putV p.2.1 p.2.2 k (.int (max0 p.1))).1 (putV p.2.1 p.2.2 k (.int (max0 p.1))).2)) fun s => .nx ((ρ.set tg .non).set i s) else .stuck
      | _ => .stuck) from h)
  have e1 := dctC_ok e1
  show tLc (rdSrc K mg W (.seq src)) (gName tg) tYes (tOp (rBin K .add) (tC (.int 1)) (tCallS (PSpM K mg j F) (WE W0) (rdEs K mg W0 (insX j (.var i) es)))) [tg] σ H fun x H1 => tNil σ H1 fun xs H2 => (tCons (tC (.int 0)) tNil) σ H2 fun zs H3 => rMaxD K (x :: xs) zs H3 fun v H4 => gSub (tVar i) (rd K mg W ke).1 rSetD v σ H4 D.nx
  unfold tLc
  refine acc_src (s := .seq src) wsr er h fun items J H1 G Y s1 hl wkk g0 st a Dd hD => ?_
  obtain ⟨p, e2, a⟩ := acc_some a
  have er1 := er.same s1
  obtain ⟨a0, hs0, oa, rc, back⟩ := cont_at er1 e1
  cases hst : storeV .pure ke ((ρ.set tg .non).set i .non) with
  | exc c =>
    rw [hst] at a
    exact a.elim
  | stuck =>
    rw [hst] at a
    exact a.elim
  | ok kk =>
  rw [hst] at a
  simp only at a
  split at a
  case isFalse => exact a.elim
  rename_i hc
  obtain ⟨hit, hlen, hkf⟩ := hc
  obtain ⟨sE, e3, aE⟩ := acc_some a
  obtain ⟨s0, hs0'⟩ : ∃ s0, ρ[i]? = some s0 := by
    cases q : ρ[i]? with
    | none =>
      rw [q] at e1
      cases e1
    | some s => exact ⟨s, rfl⟩
  have er00 : s0.erase = .non := erase_dct (kv := kv) (by rw [← hs0']; exact e1)
  -- the new list is the loop name's while it grows
  obtain ⟨O1, hO1⟩ : ∃ O1, O1 = setO O Dd tg := ⟨_, rfl⟩
  have fT : Frm N0 [] O H1 O1 (upd H1 Dd (.lst [])) := by
    rw [hO1]
    exact .take (same_upd hD) hD
  have oD : O1 Dd = some tg := by rw [hO1]; exact setO_same
  have hDa : a0 ≠ Dd := fun z => rc.live.1 (by rw [z]; exact hD)
  have oa1 : O1 a0 = some i := by rw [hO1, setO_ne hDa]; exact oa
  have erD : EnvR K N0 H0 O1 (upd H1 Dd (.lst [])) σ ((ρ.set tg .non).set i s0) := by
    refine er1.frm fT (fun c l oc => ?_) (by rw [List.length_set, List.length_set]; exact er1.len) (fun l t hl => ?_) (er1.s0.trans (same_upd hD))
    · by_cases z : c = Dd
      · subst z
        exact ⟨er1.s0.free hD, some_ne upd_same⟩
      · rw [hO1, setO_ne z] at oc
        exact ⟨(er1.o0 c l oc).1, fT.l c (er1.o0 c l oc).2⟩
    · rw [List.getElem?_set] at hl
      by_cases q : i = l
      · subst q
        rw [if_pos rfl] at hl
        split at hl
        · cases hl
          exact .inl ⟨List.not_mem_nil, hs0', rfl⟩
        · cases hl
      · rw [if_neg q] at hl
        rw [List.getElem?_set] at hl
        split at hl
        · split at hl
          · cases hl
            exact .inr .non
          · cases hl
        · exact .inl ⟨List.not_mem_nil, hl, rfl⟩
  have stE : ∀ H2, Ext N0 O H1 O1 H2 → Keep (fun c => Nf N0 O c ∧ c ≠ Dd) H1 H2 := fun H2 ⟨is, f⟩ c o hc hh => f.k c o hc (hh.imp (·.1) id)
  have cl : ∀ c, Nf N0 O c → H1 c ≠ none → Nf N0 O c ∧ c ≠ Dd := fun c hc h0 => ⟨hc, fun z => h0 (by rw [z]; exact hD)⟩
  have nf1 : ∀ c, (Nf N0 O c ∧ c ≠ Dd) → Nf N0 O1 c := fun c hc => ⟨hc.1.1, by rw [hO1, setO_ne hc.2]; exact hc.1.2⟩
  obtain ⟨stG, stY⟩ := st (fun c => Nf N0 O c ∧ c ≠ Dd) cl
  have hil : i < ρ.length := (List.getElem?_eq_some_iff.mp hs0').1
  refine lc_it wkk (fun t H2 => ∃ kvt sT dn rest, putC ρ[i]? (.dct true kvt.1 kvt.2) = some sT ∧ EnvR K N0 H0 O1 H2 σ ((ρ.set tg .non).set i sT) ∧ H2 Dd = some (.lst (dn.map V.int)) ∧ colM (maxF es F tg ρ) (items.drop t) kvt = some rest ∧ p = (dn ++ rest.1, rest.2) ∧ Ext N0 O H1 O1 H2 ∧ dn.length ≤ t) ?_ ?_ ?_ ?_
  · exact ⟨kv, s0, [], p, by rw [putC_self e1]; exact hs0', erD, upd_same, e2, rfl, ⟨_, fT⟩, Nat.le_refl _⟩
  · rintro t H2 ht ⟨kvt, sT, dn, rest, h1, h2, h3, h4, h5, h6, h7⟩
    exact stG H1 H2 (stE H2 h6) g0
  · rintro t x H2 H3 ht ⟨kvt, sT, dn, rest, h1, h2, h3, h4, h5, h6, h7⟩ y
    obtain ⟨w, ew, s3, rw'⟩ := stY t H2 x H3 ht (stE H2 h6) (stG H1 H2 (stE H2 h6) g0) y
    have hlt : t < items.length := ht
    rw [List.drop_eq_getElem_cons hlt] at h4
    have ew2 : items[t] = w := by
      rw [List.getElem?_eq_getElem hlt] at ew
      exact Option.some.inj ew
    rw [ew2] at h4
    obtain ⟨q, p', f1, f2, f3⟩ := colM_cons h4
    have er3 := h2.same s3
    have rx : Rep K (Nf N0 O1) H3 x w := rw'.more nf1
    have erT : sT.erase = .non := erase_dct (cont_putC h1)
    have ev : Ev K (Nf N0 O1) H3 ((L2.wipe σ [tg]).set tg (some x)) (eraseM ((ρ.set tg .non).set tg (.val w))) := by
      have ev1 := ((er3.ev).wipe [tg]).set tg rx
      have ee : (kill (eraseM ((ρ.set tg .non).set i sT)) [tg]).set tg (.val w) = eraseM ((ρ.set tg .non).set tg (.val w)) := by
        show ((eraseM ((ρ.set tg .non).set i sT)).set tg .non).set tg (.val w) = _
        refine List.ext_getElem? fun l => ?_
        have eL : (((eraseM ((ρ.set tg .non).set i sT)).set tg .non).set tg (.val w))[l]? = if tg = l then (if tg < ρ.length then some (.val w) else none) else (((ρ.set tg .non).set i sT)[l]?).map Slot.erase := by
          rw [List.set_set, List.getElem?_set, erase_get]
          unfold eraseM
          rw [List.length_map, List.length_set, List.length_set]
        have eR : (eraseM ((ρ.set tg .non).set tg (.val w)))[l]? = if tg = l then (if tg < ρ.length then some (.val w) else none) else (ρ[l]?).map Slot.erase := by
          rw [List.set_set, erase_get, List.getElem?_set]
          split
          · split <;> rfl
          · rfl
        rw [eL, eR]
        by_cases q1 : tg = l
        · rw [if_pos q1, if_pos q1]
        · rw [if_neg q1, if_neg q1]
          by_cases q2 : i = l
          · subst q2
            rw [List.getElem?_set, if_pos rfl, List.length_set, if_pos hil, hs0']
            show some sT.erase = some s0.erase
            rw [erT, er00]
          · rw [List.getElem?_set, if_neg q2, List.getElem?_set, if_neg q1]
      rw [ee] at ev1
      exact ev1
    refine ⟨?_, ?_⟩
    · rw [wipe_set (List.mem_singleton.mpr rfl), wipe_wipe]
    · unfold tYes
      dsimp only
      rw [if_pos rfl]
      have hsi : ((L2.wipe σ [tg]).set tg (some x))[i]? = some (some (.ref a0)) := by
        rw [set_get_ne (Ne.symm hit), wipe_get, if_neg (by rw [List.mem_singleton]; exact hit)]
        exact hs0
      have hx : ∀ Ha Q, Same H3 Ha → (∀ v Hb, Same Ha Hb → v = V.ref a0 → Q v Hb) → (rd K mg W0 (.var i)).1 ((L2.wipe σ [tg]).set tg (some x)) Ha Q := fun Ha Q s q => ⟨_, hsi, q _ Ha (Same.refl _) rfl⟩
      unfold maxF at f1
      cases he : evEs es (eraseM ((ρ.set tg .non).set tg (.val w))) with
      | exc c =>
        rw [he] at f1
        exact nomatch f1
      | stuck =>
        rw [he] at f1
        exact nomatch f1
      | ok ws =>
        rw [he] at f1
        have hF := mcR_ok f1
        refine args_ins (W := W0) (R := fun v _ => v = V.ref a0) (fun _ _ _ _ h => h) hx j es H3 ws _ (Same.refl H3) we er3.fr ev he fun us v H4 s4 ru ev' => ?_
        subst ev'
        have er4 := er3.same s4
        have hρi : ((ρ.set tg .non).set i sT)[i]? = some sT := by rw [List.getElem?_set, if_pos rfl, if_pos (by rw [List.length_set]; exact hil)]
        obtain ⟨a1, g1, g2, g3, g4⟩ := cont_at er4 (i := i) (ct := .dct true kvt.1 kvt.2) (by rw [hρi]; exact cont_putC h1)
        have ea : a1 = a0 := by
          rw [hs0] at g1
          cases g1
          rfl
        subst ea
        refine promise er4 g1 g2 g3 ru (.inl ⟨_, _, hF, fun z H5 sx r _ rc5 => ?_⟩)
        cases r
        obtain ⟨sN, hsN⟩ : ∃ sN, putC (some sT) (.dct true q.2.1 q.2.2) = some sN := by
          have := cont_putC h1
          cases sT with
          | odct k ks vs =>
            cases k with
            | true => exact ⟨_, rfl⟩
            | false => exact nomatch this
          | io t c => exact ⟨_, rfl⟩
          | own vs => exact nomatch this
          | obj nm fs => exact nomatch this
          | _ => exact nomatch this
        obtain ⟨er5, x5⟩ := er4.putX g1 g2 g3.live.2 sx rc5.live.1 (g4 O1 H5 _ sN rc5 g2 (by rw [hρi]; exact hsN))
        rw [List.set_set] at er5
        refine bin_ok (op := .add) (w := .int (1 + q.1)) er5.fr (.int 1) (.int q.1) rfl fun zz H6 s6 rz _ => ?_
        cases rz
        have er6 := er5.same s6
        have hD6 : H6 Dd = some (.lst (dn.map V.int)) := s6 _ _ (sx Dd _ (Ne.symm hDa) ((s3.trans s4) _ _ h3))
        have fD : Frm N0 [tg] O1 H6 O1 (upd H6 Dd (.lst (dn.map V.int ++ [.int (1 + q.1)]))) := .write oD hD6 (fun z => z)
        refine ⟨dn.map V.int, hD6, ?_, ?_⟩
        · rw [List.length_map]
          exact Nat.lt_of_lt_of_le (Nat.lt_of_le_of_lt h7 hlt) (Nat.le_trans hl (by decide))
        · refine ⟨q.2, sN, dn ++ [1 + q.1], p', putC_putC h1 hsN, ?_, ?_, f2, ?_, ?_, ?_⟩
          · refine er6.frm fD (fun d l od => ⟨(er6.o0 d l od).1, fD.l d (er6.o0 d l od).2⟩) er6.len (fun l u hl => ?_) fun d od hd => ?_
            · by_cases ql : l = tg
              · subst ql
                rw [set_get_ne hit, List.getElem?_set, if_pos rfl] at hl
                split at hl
                · cases hl
                  exact .inr .non
                · cases hl
              · exact .inl ⟨by rw [List.mem_singleton]; exact ql, hl, rfl⟩
            · have hne : d ≠ Dd := fun z => by
                rw [z, (er6.o0 Dd tg oD).1] at hd
                cases hd
              rw [upd_ne hne]
              exact er6.s0 d od hd
          · rw [upd_same, List.map_append]
            rfl
          · rw [h5, f3, List.append_assoc]
            rfl
          · exact (((h6.trans (.same (s3.trans s4))).trans x5).trans (.same s6)).trans ⟨_, fD⟩
          · rw [List.length_append]
            simp only [List.length_cons, List.length_nil]
            omega
  · rintro H2 ⟨kvt, sT, dn, rest, h1, h2, h3, h4, h5, h6, h7⟩
    rw [List.drop_length] at h4
    cases h4
    have hp : p = (dn, kvt) := by
      rw [h5, List.append_nil]
    subst hp
    refine ⟨Dd, dn, rfl, rfl, SqL.of h3, _, hs0, ?_⟩
    have erk : EnvR K N0 H0 O1 H2 σ ((ρ.set tg .non).set i .non) := by
      have := h2.kill [i]
      have e5 : kill ((ρ.set tg .non).set i sT) [i] = (ρ.set tg .non).set i .non := by
        show ((ρ.set tg .non).set i sT).set i .non = _
        rw [List.set_set]
      rw [e5] at this
      exact this
    refine store_ok wk erk hst fun key H3 s3' ry _ => ?_
    have er3 := h2.same s3'
    have hρi : ((ρ.set tg .non).set i sT)[i]? = some sT := by rw [List.getElem?_set, if_pos rfl, if_pos (by rw [List.length_set]; exact hil)]
    obtain ⟨a1, g1, g2, g3, g4⟩ := cont_at er3 (i := i) (ct := .dct true kvt.1 kvt.2) (by rw [hρi]; exact cont_putC h1)
    have ea : a1 = a0 := by
      rw [hs0] at g1
      cases g1
      rfl
    subst ea
    obtain ⟨k1, k2⟩ := kvt
    have lv := g3.live
    cases g3 with
    | @dK kvs _ _ hh hk hlk rr =>
      obtain ⟨key', rfl, rfl⟩ := key_of ry hkf
      have hk : k1 = kvs.map fun p => keyV p.1 := hk
      subst hk
      have rr : Reps K (Nf N0 O1) H3 (kvs.map (·.2)) k2 := rr
      have hlk : k2.length ≤ cap := hlk
      obtain ⟨p1, p2, p3⟩ := put_gen (k := key') keyV eqv_key (.int (max0 dn)) rr
      have lk : kvs.length < sizeLine := by
        have hc : cap < sizeLine := by decide
        have : (kvs.map fun p => keyV p.1).length < cap := hlen
        rw [List.length_map] at this
        omega
      have lw : k2.length < cap := by
        have h3 := rr.length
        have : (kvs.map fun p => keyV p.1).length < cap := hlen
        rw [List.length_map] at h3 this
        omega
      refine ⟨a1, upd H3 a1 (.dK (putK kvs key' (.int (max0 dn)))), rfl, DPut.k hh lk, ?_⟩
      have fw : Frm N0 [i] O1 H3 O1 (upd H3 a1 (.dK (putK kvs key' (.int (max0 dn))))) := .write g2 hh (fun z => z)
      have rc' : ContR K (Nf N0 O1) (upd H3 a1 (.dK (putK kvs key' (.int (max0 dn))))) a1 (.dct true (putV (kvs.map fun p => keyV p.1) k2 (keyV key') (.int (max0 dn))).1 (putV (kvs.map fun p => keyV p.1) k2 (keyV key') (.int (max0 dn))).2) :=
        .dK upd_same p1.symm (by omega) (fw.keeps p2)
      obtain ⟨er4, x4⟩ := er3.putX g1 g2 lv.2 (fun b o hb ho => by rw [upd_ne hb]; exact ho) rc'.live.1 (back O1 _ _ sE rc' g2 e3)
      rw [List.set_set] at er4
      exact aE O1 _ σ er4 ((h6.trans (.same s3')).trans x4)
end
end Lh
set_option Elab.async false
set_option linter.all false
set_option maxRecDepth 100000
set_option maxHeartbeats 8000000
namespace Lh
open PySem L2
theorem pd_pure : ∀ (d : Nat) (w : Val), w.pd d = true → w.pure = true
  | _, .non, _ => rfl
  | _, .bool _, _ => rfl
  | _, .int _, _ => rfl
  | _, .str _, _ => rfl
  | 0, .tup _, h => nomatch h
  | n + 1, .tup xs, h => pures_of_all (List.all_eq_true.mpr fun x hx => pd_pure n x (List.all_eq_true.mp (show xs.all (Val.pd n) = true from h) x hx))
  | 0, .lst _, h => nomatch h
  | _ + 1, .lst _, h => nomatch h
  | 0, .scr _, h => nomatch h
  | _ + 1, .scr _, h => nomatch h
  | 0, .dct _ _ _, h => nomatch h
  | _ + 1, .dct _ _ _, h => nomatch h
  | 0, .exc _, h => nomatch h
  | _ + 1, .exc _, h => nomatch h
  | 0, .obj _ _, h => nomatch h
  | _ + 1, .obj _ _, h => nomatch h
section
variable {K : PySem.W.Frag}
mutual
/-- what is pure goes where the tuples go -/
theorem Rep.mv {N N' : Addr → Prop} {H H' : Hp} {v : V} {w : Val} (hT : ∀ a xs, H a = some (.tup xs) → H' a = some (.tup xs)) (r : Rep K N H v w) (h : w.pure = true) : Rep K N' H' v w := by
  cases r with
  | non => exact .non
  | bool b => exact .bool b
  | int i => exact .int i
  | str s => exact .str s
  | tup h1 hl r => exact .tup (hT _ _ h1) hl (Reps.mv hT r h)
  | lst n h1 hl r => exact nomatch h
  | scr h1 hl r => exact nomatch h
  | dK n h1 hk hl r => exact nomatch h
  | dT n h1 hk hl r => exact nomatch h
  | exc h1 f m => exact nomatch h
  | obj n h1 hm hp r => exact nomatch h
theorem Reps.mv {N N' : Addr → Prop} {H H' : Hp} {v : List V} {w : List Val} (hT : ∀ a xs, H a = some (.tup xs) → H' a = some (.tup xs)) (r : Reps K N H v w) (h : Val.pures w = true) : Reps K N' H' v w := by
  cases r with
  | nil => exact .nil
  | cons a t =>
    rw [Val.pures, Bool.and_eq_true] at h
    exact .cons (Rep.mv hT a h.1) (Reps.mv hT t h.2)
end
theorem pds_pures {d : Nat} {ws : List Val} (h : ws.all (Val.pd d) = true) : Val.pures ws = true := pures_of_all (List.all_eq_true.mpr fun x hx => pd_pure d x (List.all_eq_true.mp h x hx))
theorem flat4_lst {w : Val} (h : flat4 w = true) : ∃ us, w = .lst us ∧ us.all (Val.pd 4) = true := by
  cases w with
  | lst us => exact ⟨us, rfl, h⟩
  | _ => exact nomatch h
theorem told2_lst {w : Val} (h : told2 w = true) : ∃ ws, w = .lst ws ∧ (∀ v ∈ ws, v.pd 5 = true ∨ flat4 v = true) ∧ ws.length ≤ 1000 := by
  cases w with
  | lst ws =>
    have h' : (ws.all (fun v => v.pd 5 || flat4 v) && decide (ws.length ≤ 1000)) = true := h
    rw [Bool.and_eq_true, List.all_eq_true, decide_eq_true_iff] at h'
    refine ⟨ws, rfl, fun v hv => ?_, h'.2⟩
    have := h'.1 v hv
    rw [Bool.or_eq_true] at this
    exact this
  | _ => exact nomatch h
theorem scr1_pd {w : Val} {d : Nat} (h : w.pd d = true) : scr1 w = w := by
  cases w with
  | lst us => cases d <;> exact nomatch h
  | _ => rfl
/-- told lists, locked -/
theorem Reps.scr {S : Addr → Prop} {N : Addr → Prop} {H Hz : Hp} (fz : FrzOf S H Hz) : ∀ {xs : List V} {ws : List Val}, Reps K S H xs ws → (∀ v ∈ ws, v.pd 5 = true ∨ flat4 v = true) → Reps K N Hz xs (ws.map scr1)
  | _, _, .nil, _ => .nil
  | _, _, @Reps.cons _ _ _ v vs w ws r t, h => by
    have hT : ∀ a xs, H a = some (.tup xs) → Hz a = some (.tup xs) := fun a xs e => by
      rw [(fz a).2 fun ⟨ys, _, q⟩ => by rw [e] at q; cases q]
      exact e
    refine .cons ?_ (Reps.scr fz t fun v hv => h v (List.mem_cons_of_mem _ hv))
    rcases h w List.mem_cons_self with q | q
    · rw [scr1_pd q]
      exact r.mv hT (pd_pure 5 w q)
    · obtain ⟨us, rfl, hu⟩ := flat4_lst q
      cases r with
      | lst n h1 hl r =>
        obtain ⟨o, ho⟩ := (fz _).1 _ n h1
        exact .scr (.inl ⟨o, ho⟩) hl (r.mv hT (pds_pures hu))
theorem Rep.scr2 {S : Addr → Prop} {N : Addr → Prop} {H Hz : Hp} (fz : FrzOf S H Hz) {x : V} {w : Val} (r : Rep K S H x w) (h : told2 w = true) : Rep K N Hz x (Lh.scr2 w) := by
  obtain ⟨ws, rfl, hw, hl⟩ := told2_lst h
  cases r with
  | lst n h1 hl r =>
    obtain ⟨o, ho⟩ := (fz _).1 _ n h1
    exact .scr (.inl ⟨o, ho⟩) (by rw [List.length_map]; exact hl) (r.scr fz hw)
/-- told lists go where their lists and the tuples go -/
theorem Reps.told {N N' : Addr → Prop} {H H' : Hp} (hT : ∀ a xs, H a = some (.tup xs) → H' a = some (.tup xs)) (hL : ∀ a xs, N a → H a = some (.lst xs) → N' a ∧ H' a = some (.lst xs)) :
    ∀ {xs : List V} {ws : List Val}, Reps K N H xs ws → (∀ v ∈ ws, v.pd 5 = true ∨ flat4 v = true) → Reps K N' H' xs ws
  | _, _, .nil, _ => .nil
  | _, _, @Reps.cons _ _ _ v vs w ws r t, h => by
    refine .cons ?_ (Reps.told hT hL t fun v hv => h v (List.mem_cons_of_mem _ hv))
    rcases h w List.mem_cons_self with q | q
    · exact r.mv hT (pd_pure 5 w q)
    · obtain ⟨us, rfl, hu⟩ := flat4_lst q
      cases r with
      | lst n h1 hl r => exact .lst (hL _ _ n h1).1 (hL _ _ n h1).2 hl (r.mv hT (pds_pures hu))
theorem Rep.told {N N' : Addr → Prop} {H H' : Hp} (hT : ∀ a xs, H a = some (.tup xs) → H' a = some (.tup xs)) (hL : ∀ a xs, N a → H a = some (.lst xs) → N' a ∧ H' a = some (.lst xs)) {x : V} {w : Val} (r : Rep K N H x w) (h : told2 w = true) : Rep K N' H' x w := by
  obtain ⟨ws, rfl, hw, hl⟩ := told2_lst h
  cases r with
  | lst n h1 hl r => exact .lst (hL _ _ n h1).1 (hL _ _ n h1).2 hl (r.told hT hL hw)
theorem Reps.inV {N : Addr → Prop} {H : Hp} : ∀ {xs : List V} {ws : List Val}, Reps K N H xs ws → ∀ x ∈ xs, ∃ w ∈ ws, Rep K N H x w
  | _, _, .nil, _, h => nomatch h
  | _, _, .cons r t, x, h => by
    rcases List.mem_cons.mp h with q | q
    · rw [q]
      exact ⟨_, List.mem_cons_self, r⟩
    · obtain ⟨w, hw, r⟩ := Reps.inV t x q
      exact ⟨w, List.mem_cons_of_mem _ hw, r⟩
theorem Reps.pureV {N : Addr → Prop} {H : Hp} {d : Nat} {xs : List V} {ws : List Val} (r : Reps K N H xs ws) (h : ws.all (Val.pd d) = true) : ∀ x ∈ xs, PureV K d H x := fun x hx =>
  let ⟨w, hw, q⟩ := r.inV x hx
  ⟨N, w, q, List.all_eq_true.mp h w hw⟩
end
section
variable {K : PySem.W.Frag} {mg : Str → Option Value} {W : WX} {N0 : Addr → Prop} {H0 : Hp} {O : Own} {H : Hp} {σ : St} {ρ : Env} {D : Ends}
/-- an object made: the slots' marks with it -/
theorem make_K {d : Nat} {F : List Val → Cont → OutM} {es : Es} {f : List Str → List Val → Out} {Q : VK} (w : wfs es = true) (er : EnvR K N0 H0 O H σ ρ) (h : Acc K mg W N0 H0 O H D ((evEs es (eraseM ρ)).out ρ fun vs => match F vs (.obj [] []) with
      | .ok .non (.obj nm fs) => f nm fs
      | _ => .stuck)) (k : ∀ x H' O' nm fs, EnvR K N0 H0 O' H' σ ρ → Frm N0 [] O H O' H' → Same H H' → ContR K (Nf N0 O') H' x (.obj nm fs) → O' x = some d → (∀ b, b ≠ x → O' b = O b) → H x = none → Acc K mg W N0 H0 O' H' D (f nm fs) → Q (.ref x) H') :
    tMake (C0 K) (PSpM K mg 0 F) [] tNever' (rdEs K mg W es) σ H Q := by
  cases e2 : evEs es (eraseM ρ) with
  | exc x =>
    rw [e2] at h
    exact (dens W es w).exc (Nf N0 O) H σ (eraseM ρ) x _ er.fr er.ev e2 (Acc.excW er h)
  | stuck =>
    rw [e2] at h
    exact h.elim
  | ok ws =>
    rw [e2] at h
    refine (dens W es w).ok (Nf N0 O) H σ (eraseM ρ) ws _ er.fr er.ev e2 fun us H1 s1 ru x dx nx ndx nex => ?_
    have h : Acc K mg W N0 H0 O H1 D (match F ws (.obj [] []) with
      | .ok .non (.obj nm fs) => f nm fs
      | _ => .stuck) := Acc.mono (.same s1) h
    have er1 := er.same s1
    have s2 : Same H1 (upd (upd H1 dx (.own x)) x (.ins (C0 K) dx [])) := fun b o e => by
      rw [upd_ne (ne_of_none e nx), upd_ne (ne_of_none e ndx)]
      exact e
    have er2 := er1.same s2
    have nfx : Nf N0 O x := er1.fr x nx
    refine ⟨Nf N0 O, us, ws, x, .obj [] [], ?_, er2.fr, nfx, ?_, .obj upd_same rfl rfl .nil, ?_⟩
    · show (V.ref x :: (us ++ [])) = insA 0 (.ref x) us
      rw [List.append_nil]
      rfl
    · exact ru.keep (fun b nb hb => ⟨nb, fun z => hb (by rw [z]; exact nx)⟩) (.of s2)
    · cases hF : F ws (.obj [] []) with
      | ok v ct' =>
        rw [hF] at h
        cases v with
        | non =>
          cases ct' with
          | obj nm fs =>
            refine .inl ⟨_, _, rfl, fun z H' sx r hp rc' => ?_⟩
            cases r
            refine ⟨rfl, ?_⟩
            have s3 : Same H1 H' := fun b o e => sx b o (ne_of_none e nx) (s2 b o e)
            have f : Frm N0 [] O H1 (setO O x d) H' := .take s3 nx
            have fH : Frm N0 [] O H (setO O x d) H' := .take (fun b o e => s3 b o (s1 b o e)) (s1.free nx)
            have hsub : ∀ b, (Nf N0 O b ∧ b ≠ x) → Nf N0 (setO O x d) b := fun b hb => ⟨hb.1.1, by rw [setO_ne hb.2]; exact hb.1.2⟩
            refine k x H' (setO O x d) nm fs (er1.frm f (fun b j ob => ?_) er1.len (fun j t hj => .inl ⟨List.not_mem_nil, hj, rfl⟩) (er1.s0.trans s3)) fH (fun b o e => s3 b o (s1 b o e)) (rc'.more hsub) setO_same (fun b hb => setO_ne hb) (s1.free nx) (Acc.mono ⟨[], f⟩ h)
            by_cases q : b = x
            · subst q
              exact ⟨er1.s0.free nx, rc'.live.1⟩
            · rw [setO_ne q] at ob
              exact ⟨(er1.o0 b j ob).1, f.l b (er1.o0 b j ob).2⟩
          | _ => exact h.elim
        | _ => exact h.elim
      | exc x ct' =>
        rw [hF] at h
        exact h.elim
      | stuck =>
        rw [hF] at h
        exact h.elim
theorem den_newK2 {d1 d2 : Nat} {F : List Val → Cont → OutM} {es1 es2 : Es} {n : Nat} (w1 : wfs es1 = true) (w2 : wfs es2 = true) (er : EnvR K N0 H0 O H σ ρ) (h : Acc K mg W N0 H0 O H D (evS n (.newK2 d1 d2 F es1 es2) ρ)) : rdS K mg W (.newK2 d1 d2 F es1 es2) D σ H := by
  have h : Acc K mg W N0 H0 O H D ((evEs es1 (eraseM ρ)).out ρ fun vs => match F vs (.obj [] []) with
    | .ok .non (.obj nm fs) => (evEs es2 (eraseM ρ)).out ρ fun us => (match F us (.obj [] []) with
      | .ok .non (.obj nm2 fs2) => if d1 = d2 then .stuck else .nx ((ρ.set d1 (.obj nm fs)).set d2 (.obj nm2 fs2))
      | _ => .stuck)
    | _ => .stuck) := h
  show tMake (C0 K) (PSpM K mg 0 F) [] tNever' (rdEs K mg W es1) σ H fun x H1 => tMake (C0 K) (PSpM K mg 0 F) [] tNever' (rdEs K mg W es2) σ H1 fun y H2 => ∃ v w, [x, y] = [v, w] ∧ D.nx ((σ.set d1 (some v)).set d2 (some w)) H2
  refine make_K (d := d1) w1 er h fun x H1 O1 nm fs er1 f1 s1 c1 o1 u1 nx h => ?_
  refine make_K (d := d2) w2 er1 h fun y H2 O2 nm2 fs2 er2 f2 s2 c2 o2 u2 ny h => ⟨_, _, rfl, ?_⟩
  split at h
  · exact h.elim
  · rename_i hd
    have hxy : x ≠ y := fun z => by
      rw [← z] at ny
      exact c1.live.1 ny
    have c1' : ContR K (Nf N0 O2) H2 x (.obj nm fs) := f2.cont (by
      cases e : H1 x with
      | none => exact absurd e c1.live.1
      | some u => exact s2 x u e) c1
    have o1' : O2 x = some d1 := by rw [u2 x hxy]; exact o1
    refine h O2 H2 _ (er2.frm (.of_same (Same.refl H2)) er2.o0 (by rw [List.length_set, List.length_set, List.length_set, List.length_set]; exact er2.len) (fun j t hj => ?_) er2.s0) .refl
    rw [List.getElem?_set] at hj ⊢
    by_cases q2 : d2 = j
    · subst q2
      rw [if_pos rfl, List.length_set] at hj ⊢
      split at hj
      · rename_i hlt
        cases hj
        rw [er2.len, if_pos hlt]
        exact .inr (.obj c2 o2)
      · cases hj
    · rw [if_neg q2] at hj ⊢
      rw [List.getElem?_set] at hj ⊢
      by_cases q : d1 = j
      · subst q
        rw [if_pos rfl] at hj ⊢
        split at hj
        · rename_i hlt
          cases hj
          rw [er2.len, if_pos hlt]
          exact .inr (.obj c1' o1')
        · cases hj
      · rw [if_neg q] at hj ⊢
        exact .inl ⟨List.not_mem_nil, hj, rfl⟩
/-- told lists, all of them new -/
theorem den_deepC {i : Nat} {x : Str} {F : List Val → Res Val} {es : Es} {n : Nat} (w : wfs es = true) (er : EnvR K N0 H0 O H σ ρ) (h : Acc K mg W N0 H0 O H D (evS n (.deepC i x F es) ρ)) : rdS K mg W (.deepC i x F es) D σ H := by
  classical
  have h : Acc K mg W N0 H0 O H D ((evEs es (eraseM ρ)).out ρ fun vs => if Val.pures vs then (match F vs with
    | .ok v => .nx (ρ.set i (.deep v))
    | _ => .stuck) else .stuck) := h
  show rdEs K mg W es σ H fun vs H1 => PSp K mg F vs H1 (fun z H2 => D.nx (σ.set i (some z)) H2) (WE W σ)
  cases e2 : evEs es (eraseM ρ) with
  | exc x =>
    rw [e2] at h
    exact (dens W es w).exc (Nf N0 O) H σ (eraseM ρ) x _ er.fr er.ev e2 (Acc.excW er h)
  | stuck =>
    rw [e2] at h
    exact h.elim
  | ok ws =>
    rw [e2] at h
    refine (dens W es w).ok (Nf N0 O) H σ (eraseM ρ) ws _ er.fr er.ev e2 fun us H1 s1 ru => ?_
    have h : Acc K mg W N0 H0 O H1 D (if Val.pures ws then (match F ws with
      | .ok v => .nx (ρ.set i (.deep v))
      | _ => .stuck) else .stuck) := Acc.mono (.same s1) h
    have er1 := er.same s1
    split at h
    · rename_i hp
      refine ⟨fun b => H1 b = none, ws, fun b e => e, ru.ofPure hp, ?_⟩
      cases hF : F ws with
      | ok v =>
        rw [hF] at h
        refine .inl ⟨v, rfl, fun z H2 s2 r => ?_⟩
        obtain ⟨O2, hO2⟩ : ∃ O2 : Own, O2 = fun b => if H1 b = none ∧ H2 b ≠ none then some i else O b := ⟨_, rfl⟩
        have in2 : ∀ b, H1 b = none → H2 b ≠ none → O2 b = some i := fun b e1 e2 => by rw [hO2]; exact if_pos ⟨e1, e2⟩
        have out2 : ∀ b, H1 b ≠ none → O2 b = O b := fun b e1 => by rw [hO2]; exact if_neg fun z => e1 z.1
        have f0 := Frm.of_same (N0 := N0) (O := O) s2
        have f : Frm N0 [] O H1 O2 H2 := ⟨f0.k, fun b hb o => by rw [out2 b hb]; exact o, fun b j hj o hb => by
          rw [out2 b hb]
          exact f0.j b j hj o hb, f0.l⟩
        refine h O2 H2 (σ.set i (some z)) (er1.frm f (fun b j ob => ?_) (by rw [List.length_set, List.length_set]; exact er1.len) (fun j t hj => ?_) (er1.s0.trans s2)) ⟨[], f⟩
        · by_cases q : H1 b = none ∧ H2 b ≠ none
          · exact ⟨er1.s0.free q.1, q.2⟩
          · rw [hO2] at ob
            have ob : O b = some j := by
              have z : (if H1 b = none ∧ H2 b ≠ none then some i else O b) = some j := ob
              rw [if_neg q] at z
              exact z
            exact ⟨(er1.o0 b j ob).1, f.l b (er1.o0 b j ob).2⟩
        · rw [List.getElem?_set] at hj ⊢
          by_cases q : i = j
          · subst q
            rw [if_pos rfl] at hj ⊢
            split at hj
            · rename_i hlt
              cases hj
              rw [er1.len, if_pos hlt]
              exact .inr (.deep (r.keep (fun b nb hb => in2 b nb hb) (.refl _ _)))
            · cases hj
          · rw [if_neg q] at hj ⊢
            exact .inl ⟨List.not_mem_nil, hj, rfl⟩
      | exc c =>
        rw [hF] at h
        exact h.elim
      | stuck =>
        rw [hF] at h
        exact h.elim
    · exact h.elim
/-- what is told, copied: the lists are locked meanwhile -/
theorem den_copyD {j : Nat} {x : Str} {F : List Val → Res Val} {i : Nat} {n : Nat} (er : EnvR K N0 H0 O H σ ρ) (h : Acc K mg W N0 H0 O H D (evS n (.copyD j x F i) ρ)) : rdS K mg W (.copyD j x F i) D σ H := by
  have h : Acc K mg W N0 H0 O H D (match ρ[i]? with
    | some (.deep w) => if told2 w then (match F [scr2 w] with
      | .ok v => if told2 v then .nx (ρ.set j (.val v)) else .stuck
      | _ => .stuck) else .stuck
    | _ => .stuck) := h
  show ∃ v, σ[i]? = some (some v) ∧ PSpZ (PSp K mg F) [v] H (fun z H2 => D.nx (σ.set j (some z)) H2) (WE W σ)
  split at h
  · rename_i w e1
    split at h
    · rename_i ht
      have r := er.at' i _ e1
      generalize hx : σ[i]? = y at r
      cases r with
      | @deep z _ r =>
        refine ⟨z, rfl, fun b => O b = some i, fun Hz fz => ?_⟩
        refine ⟨fun b => Hz b = none, [scr2 w], fun b e => e, .cons (r.scr2 fz ht) .nil, ?_⟩
        cases hF : F [scr2 w] with
        | ok v =>
          rw [hF] at h
          refine .inl ⟨v, rfl, fun z' H' s' r' H2 u2 => ?_⟩
          have h : Acc K mg W N0 H0 O H D (if told2 v then .nx (ρ.set j (.val v)) else .stuck) := h
          split at h
          · rename_i tv
            have sHH : Same H H2 := fun b u e => by
              by_cases q : ∃ xs, O b = some i ∧ H b = some (.lst xs)
              · rw [(u2 b).1 q]
                exact e
              · rw [(u2 b).2 q]
                exact s' b u (by rw [(fz b).2 q]; exact e)
            have lock : ∀ b xs, O b = some i → H b = some (.lst xs) → ∃ o, H' b = some (.frz o (.lst xs)) := fun b xs q1 q2 =>
              let ⟨o, e⟩ := (fz b).1 xs q1 q2
              ⟨o, s' b _ e⟩
            have hT : ∀ a xs, H' a = some (.tup xs) → H2 a = some (.tup xs) := fun a xs e => by
              rw [(u2 a).2 fun ⟨ys, q1, q2⟩ => by
                obtain ⟨o, e'⟩ := lock a ys q1 q2
                rw [e] at e'
                cases e']
              exact e
            have hL : ∀ a xs, Hz a = none → H' a = some (.lst xs) → Nf N0 O a ∧ H2 a = some (.lst xs) := fun a xs e e' => by
              have nl : ¬ ∃ ys, O a = some i ∧ H a = some (.lst ys) := fun ⟨ys, q1, q2⟩ => by
                obtain ⟨o, e3⟩ := (fz a).1 ys q1 q2
                rw [e] at e3
                cases e3
              have hn : H a = none := by
                rw [← (fz a).2 nl]
                exact e
              refine ⟨er.fr a hn, ?_⟩
              rw [(u2 a).2 nl]
              exact e'
            exact h O H2 _ ((er.same sHH).set (r'.told hT hL tv)) (.same sHH)
          · exact h.elim
        | exc c =>
          rw [hF] at h
          exact h.elim
        | stuck =>
          rw [hF] at h
          exact h.elim
    · exact h.elim
  · exact h.elim
/-- what is told, changed by who got it -/
theorem den_spoilD {d : Nat} {x : Str} {i : Nat} {n : Nat} (er : EnvR K N0 H0 O H σ ρ) (hh : Acc K mg W N0 H0 O H D (evS n (.spoilD x d i) ρ)) : rdS K mg W (.spoilD x d i) D σ H := by
  have h : Acc K mg W N0 H0 O H D (match ρ[i]? with
    | some (.deep w) => if told2 w && d == 6 then .nx (ρ.set i .non) else .stuck
    | _ => .stuck) := hh
  clear hh
  show ∃ v, σ[i]? = some (some v) ∧ PSpS K d [v] H (fun z H2 => D.nx σ H2) (WE W σ)
  split at h
  · rename_i w e1
    split at h
    · rename_i ht
      rw [Bool.and_eq_true, beq_iff_eq] at ht
      obtain ⟨ht, rfl⟩ := ht
      have r := er.at' i _ e1
      generalize hx : σ[i]? = y at r
      cases r with
      | @deep z _ r =>
        obtain ⟨ws, rfl, hw, hl⟩ := told2_lst ht
        cases r with
        | @lst a xs _ n h1 hl' r =>
          refine ⟨_, rfl, _, rfl, .inr (.inr ⟨a, xs, 4, rfl, rfl, h1, by rw [r.length]; exact hl, fun x hx => ?_, fun H' k1 k2 => ?_⟩)⟩
          · obtain ⟨w, hw', q⟩ := r.inV x hx
            rcases hw w hw' with z | z
            · exact .inl ⟨_, w, q, z⟩
            · obtain ⟨us, rfl, hu⟩ := flat4_lst z
              cases q with
              | @lst b ys _ n2 h2 hl2 r2 => exact .inr ⟨b, ys, rfl, ⟨h2, r2.pureV hu⟩, by rw [r2.length]; exact hl2⟩
          · have keepO : ∀ c o, H c = some o → (∀ ys, o = .lst ys → O c ≠ some i) → H' c = some o := fun c o e hn => by
              refine k1 c o e (fun z => ?_) fun hm ys z => ?_
              · subst z
                rw [h1] at e
                cases e
                exact hn xs rfl n
              · subst z
                obtain ⟨w, hw', q⟩ := r.inV _ hm
                cases q with
                | lst n2 h2 => exact hn ys rfl n2
                | tup h2 =>
                  rw [e] at h2
                  cases h2
                | scr h2 =>
                  rcases hw _ hw' with z | z <;> exact nomatch z
                | dK n2 h2 =>
                  rw [e] at h2
                  cases h2
                | dT n2 h2 =>
                  rw [e] at h2
                  cases h2
                | exc h2 =>
                  rw [e] at h2
                  cases h2
                | obj n2 h2 =>
                  rw [e] at h2
                  cases h2
            have f : Frm N0 [i] O H O H' := ⟨fun c o e hh => keepO c o e fun ys z oc => by
                rcases hh with hh | hh
                · rw [hh.2] at oc
                  cases oc
                · rw [z] at hh
                  exact hh, fun _ _ h => h, fun c k hk oc hc => ⟨by
                  cases e : H c with
                  | none => exact absurd e hc
                  | some o =>
                    exact keepO c o e fun ys z oc2 => by
                      rw [oc] at oc2
                      cases oc2
                      exact hk (List.mem_singleton.mpr rfl), oc⟩, k2⟩
            refine h O H' σ (er.frm f (fun b j ob => ⟨(er.o0 b j ob).1, k2 b (er.o0 b j ob).2⟩) (by rw [List.length_set]; exact er.len) (fun j t hj => ?_) ?_) ⟨_, f⟩
            · rw [List.getElem?_set] at hj
              by_cases q2 : i = j
              · subst q2
                rw [if_pos rfl] at hj
                split at hj
                · cases hj
                  exact .inr .non
                · cases hj
              · rw [if_neg q2] at hj
                exact .inl ⟨by rw [List.mem_singleton]; exact fun z => q2 z.symm, hj, rfl⟩
            · exact fun c o e => keepO c o (er.s0 c o e) fun ys _ oc => by
                have := (er.o0 c i oc).1
                rw [e] at this
                cases this
    · exact h.elim
  · exact h.elim
theorem den_spoilE {x : Str} {e : E} {n : Nat} (w : wf e = true) (er : EnvR K N0 H0 O H σ ρ) (h : Acc K mg W N0 H0 O H D (evS n (.spoilE x e) ρ)) : rdS K mg W (.spoilE x e) D σ H := by
  have h : Acc K mg W N0 H0 O H D ((storeV .pure e ρ).out ρ fun v => if v.pd 6 then .nx ρ else .stuck) := h
  show (rd K mg W e).1 σ H fun z H1 => PSpS K 6 [z] H1 (fun z H2 => D.nx σ H2) (WE W σ)
  refine acc_storeP w er h fun v z H1 s1 r _ h => ?_
  split at h
  · rename_i hp
    exact ⟨z, rfl, .inl ⟨⟨_, v, r, hp⟩, fun H2 s2 => h O H2 σ ((er.same s1).same s2) (.same s2)⟩⟩
  · exact h.elim
end
end Lh
set_option Elab.async false
set_option linter.all false
set_option maxRecDepth 100000
set_option maxHeartbeats 8000000
namespace Lh
open PySem L2
theorem popEnd_ok {K : PySem.W.Frag} {H : Hp} {xs : List V} {vs : List Val} {p : Val × List Val} {N : Addr → Prop} (r : Reps K N H xs vs) (h : popAt vs none = some p) : ∃ z, xs[xs.length - 1]? = some z ∧ Rep K N H z p.1 ∧ Reps K N H xs.dropLast p.2 ∧ p.2.length ≤ vs.length := by
  have h' : ((vs[vs.length - 1]?).map fun y => (y, vs.dropLast)) = some p := h
  cases e : vs[vs.length - 1]? with
  | none =>
    rw [e] at h'
    cases h'
  | some y =>
    rw [e] at h'
    cases h'
    obtain ⟨z, e1, r1⟩ := r.get e
    exact ⟨z, by rw [r.length]; exact e1, r1, r.dropLast, by rw [List.length_dropLast]; exact Nat.sub_le _ _⟩
theorem seq_walk {K : PySem.W.Frag} {N : Addr → Prop} {H : Hp} {x : V} {u : Val} {items : List Val} {R : It → Hp → Prop} (r1 : Rep K N H x u) (e : itemsR u = .ok items)
    (k : ∀ J G Y, items.length ≤ cap → L2.Walk J items.length G Y → G H → Stays K N H items G Y → R J H) : ∃ a, x = .ref a ∧ (((∃ xs, SqL K H a xs) ∧ R (Itl K a) H) ∨ ((∃ xs, SqT K H a xs) ∧ R (Itt K a) H)) := by
  obtain ⟨p, xs, rfl, r, hl, hc⟩ := items_seq r1 (itemsR_ok e)
  have e2 := r.length
  rcases hc with ⟨sq, hc⟩ | hc
  · refine ⟨p, rfl, .inl ⟨⟨xs, sq⟩, ?_⟩⟩
    rcases hc with ⟨n, h⟩ | h
    · exact k _ (fun H => H p = some (.lst xs)) (YAt xs) hl (by rw [← e2]; exact walk_list.mono (fun H h => SqL.of h) fun _ _ _ _ _ _ y => y) h (stays_at (firm_lst n h) r)
    · exact k _ (fun H => FrzL K H p xs) (YAt xs) hl (by rw [← e2]; exact walk_list.mono (fun H h => h.sq) fun _ _ _ _ _ _ y => y) h (stays_at firm_frz r)
  · refine ⟨p, rfl, .inr ⟨⟨xs, SqT.of hc⟩, ?_⟩⟩
    exact k _ (fun H => H p = some (.tup xs)) (YAt xs) hl (by rw [← e2]; exact walk_tup.mono (fun H h => SqT.of h) fun _ _ _ _ _ _ y => y) hc (stays_at firm_tup r)
def forR (g : TG) (tb : TS) (D : Ends) (σ : St) (J : It) (H1 : Hp) : Prop := ∃ W : Nat → Nat → St → Hp → Prop, (∃ m, W 0 m σ H1) ∧ ∀ i m σ H, W i m σ H →
  (J.stop i H ∧ D.nx σ H) ∨ (J.go i H ∧ ∃ N : St → Hp → Prop, (∀ σ' H', N σ' H' → ∃ m', m' < m ∧ W (i + 1) m' σ' H') ∧ ∀ x H', J.yld i H x H' → g x σ H' fun σ2 H2 => tb { D with nx := N, ct := N, bk := D.nx } σ2 H2)
def loopR (o : Out) (F : Env → Out) (ks : List Nat) : Out := match o with
  | .nx ρ' => F ρ'
  | .brk ρ' => .nx (kill ρ' ks)
  | o => o
theorem forL_cons {step : Val → Env → Out} {ks : List Nat} {x : Val} {r : List Val} {ρ : Env} : forL step (fun ρ => kill ρ ks) (x :: r) ρ = loopR (step x (kill ρ ks)) (fun ρ' => forL step (fun ρ => kill ρ ks) r ρ') ks := by
  rw [forL]
  cases step x (kill ρ ks) <;> rfl
theorem loop_asO {α : Type} {o : Option α} {f : α → Out} {F : Env → Out} {ks : List Nat} : loopR (asO o f) F ks = asO o fun a => loopR (f a) F ks := by cases o <;> rfl
theorem loop_out {α : Type} {r : Res α} {ρ : Env} {f : α → Out} {F : Env → Out} {ks : List Nat} : loopR (r.out ρ f) F ks = r.out ρ fun a => loopR (f a) F ks := by cases r <;> rfl
theorem loop_evM {c : MC} {ρ' : Env} {F : Env → Out} {ks : List Nat} : loopR (asO (some ρ') fun ρ' => evM c ρ' fun _ ρ'' => .nx ρ'') F ks = evM c ρ' fun _ ρ'' => F ρ'' := by
  show loopR (evM c ρ' fun _ ρ'' => .nx ρ'') F ks = _
  unfold evM
  rw [loop_asO]
  congr 1
  funext ct
  by_cases q : mOk c ct = false
  · rw [if_pos q, if_pos q]
    rfl
  · rw [if_neg q, if_neg q, loop_out]
    congr 1
    funext vs
    cases c.F vs ct with
    | ok v ct' =>
      show loopR (if v.pure = true then _ else Out.stuck) F ks = (if v.pure = true then _ else Out.stuck)
      by_cases r : v.pure = true
      · rw [if_pos r, if_pos r, loop_asO]
        rfl
      · rw [if_neg r, if_neg r]
        rfl
    | exc x ct' =>
      show loopR (asO (putC ρ'[c.i]? ct') _) F ks = _
      rw [loop_asO]
      rfl
    | stuck => rfl
theorem whileL_succ {cond : Env → Res Val} {body : Env → Out} {ks : List Nat} {n : Nat} {ρ : Env} : whileL cond body (fun ρ => kill ρ ks) (n + 1) ρ = (cond (kill ρ ks)).out (kill ρ ks) fun v => asO (boolOf v) fun b => if b then loopR (body (kill ρ ks)) (fun ρ' => whileL cond body (fun ρ => kill ρ ks) n ρ') ks else .nx (kill ρ ks) := by
  rw [whileL]
  rfl
section
variable {K : PySem.W.Frag} {mg : Str → Option Value} {W : WX} {N0 : Addr → Prop} {H0 : Hp} {O : Own} {H : Hp} {σ : St} {ρ : Env} {D : Ends}
theorem acc_body {o : Out} {F : Env → Out} {ks : List Nat} (P : St → Hp → Prop) (h : Acc K mg W N0 H0 O H D (loopR o F ks))
    (hP : ∀ O' H' σ' ρ', EnvR K N0 H0 O' H' σ' ρ' → Ext N0 O H O' H' → Acc K mg W N0 H0 O' H' D (F ρ') → P σ' H') : Acc K mg W N0 H0 O H { D with nx := P, ct := P, bk := D.nx } o := by
  cases o with
  | nx ρ' => exact fun O' H' σ' e x => hP O' H' σ' ρ' e x (Acc.mono x h)
  | ret v => exact h
  | brk ρ' => exact fun O' H' σ' e x => h O' H' σ' (e.kill ks) x
  | exc c ρ' => exact h
  | stuck => exact h
  | retM v ρ' => exact h
theorem Acc.seq {o : Out} {F : Env → Out} (P : St → Hp → Prop) (h : Acc K mg W N0 H0 O H D (o.bind F))
    (hP : ∀ O' H' σ' ρ', EnvR K N0 H0 O' H' σ' ρ' → Ext N0 O H O' H' → Acc K mg W N0 H0 O' H' D (F ρ') → P σ' H') : Acc K mg W N0 H0 O H { D with nx := P } o := by
  cases o with
  | nx ρ' => exact fun O' H' σ' e x => hP O' H' σ' ρ' e x (Acc.mono x h)
  | ret v => exact h
  | brk ρ' => exact h
  | exc c ρ' => exact h
  | stuck => exact h
  | retM v ρ' => exact h
end
section
variable {K : PySem.W.Frag} {mg : Str → Option Value} {W : WX} {N0 : Addr → Prop} {H0 : Hp} {O : Own} {H : Hp} {σ : St} {ρ : Env} {D : Ends}
/-- over an own list, by calls that change another object -/
theorem den_compT {d : Option Nat} {elt : E} {tg : Tg} {src : Src} {own : List Nat} {n : Nat} (w : wfS (.compT d elt tg src own) = true) (er : EnvR K N0 H0 O H σ ρ) (h : Acc K mg W N0 H0 O H D (evS n (.compT d elt tg src own) ρ)) : rdS K mg W (.compT d elt tg src own) D σ H := by
  simp only [wfS, Bool.and_eq_true] at w
  have dX := den_tupX (K := K) (mg := mg) (W := W) w.1 w.2.1 w.2.2
  cases d with
  | some i =>
    have h' : Acc K mg W N0 H0 O H D ((evX elt tg src own (eraseM ρ)).out ρ fun v => .nx (ρ.set i (.val v))) := h
    cases hv : evX elt tg src own (eraseM ρ) with
    | stuck =>
      rw [hv] at h'
      exact h'.elim
    | exc c =>
      rw [hv] at h'
      exact dX.exc (Nf N0 O) H σ (eraseM ρ) c _ er.fr er.ev hv (h'.excW er)
    | ok v =>
      rw [hv] at h'
      exact dX.ok (Nf N0 O) H σ (eraseM ρ) v _ er.fr er.ev hv fun z H' s r _ => h' O H' _ ((er.same s).set r) (.same s)
  | none =>
    have h' : Acc K mg W N0 H0 O H D ((evX elt tg src own (eraseM ρ)).out ρ fun v => .ret v) := h
    cases hv : evX elt tg src own (eraseM ρ) with
    | stuck =>
      rw [hv] at h'
      exact h'.elim
    | exc c =>
      rw [hv] at h'
      exact dX.exc (Nf N0 O) H σ (eraseM ρ) c _ er.fr er.ev hv (h'.excW er)
    | ok v =>
      rw [hv] at h'
      exact dX.ok (Nf N0 O) H σ (eraseM ρ) v _ er.fr er.ev hv fun z H' s r _ => h' z H' (er.s0.trans s) (r.more fun a ha => ha.1)
theorem den_forO {tg : Tg} {i : Nat} {c : MC} {ks : List Nat} {n : Nat} (w : wfs c.es = true) (er : EnvR K N0 H0 O H σ ρ) (h : Acc K mg W N0 H0 O H D (evS n (.forO tg i c ks) ρ)) : rdS K mg W (.forO tg i c ks) D σ H := by
  obtain ⟨vs, e1, h⟩ := acc_some (show Acc K mg W N0 H0 O H D (asO (ownOf ρ[i]?) fun vs => if i = c.i then .stuck else forL (fun x ρ => asO (bindT tg x ρ) fun ρ' => evM c ρ' fun _ ρ'' => .nx ρ'') (fun ρ => kill ρ ks) vs ρ) from h)
  split at h
  · exact h.elim
  rename_i hne
  obtain ⟨b, xs, b1, b2, b3, b4, b5, b6⟩ := own_at er e1
  have e2 := b5.length
  refine ⟨_, b1, b, rfl, .inl ⟨⟨xs, SqL.of b2⟩, ?_⟩⟩
  have wk : L2.Walk (Itl K b) vs.length (fun H => H b = some (.lst xs)) (YAt xs) := by
    rw [← e2]
    exact walk_list.mono (fun H h => SqL.of h) fun _ _ _ _ _ _ y => y
  refine for_it wk (fun t σ2 H2 => ∃ ρ2, EnvR K N0 H0 O H2 σ2 ρ2 ∧ (∃ is, i ∉ is ∧ Frm N0 is O H O H2) ∧ Acc K mg W N0 H0 O H2 D (forL (fun x ρ => asO (bindT tg x ρ) fun ρ' => evM c ρ' fun _ ρ'' => .nx ρ'') (fun ρ => kill ρ ks) (vs.drop t) ρ2)) ⟨ρ, er, ⟨[], List.not_mem_nil, .of_same (Same.refl H)⟩, h⟩ ?_ ?_ ?_
  · rintro t σ2 H2 ht ⟨ρ2, e3, ⟨is, hi, f⟩, a2⟩
    rw [(f.j b i hi b3 (by rw [b2]; exact fun z => nomatch z)).1]
    exact b2
  · rintro t x σ2 H2 H3 ht ⟨ρ2, e3, ⟨is, hi, f⟩, a2⟩ y
    obtain ⟨rfl, hx⟩ := y
    have hlt : t < vs.length := ht
    rw [List.drop_eq_getElem_cons hlt] at a2
    obtain ⟨v, ev, rv⟩ := (f.keeps b5).getV hx
    have ev2 : vs[t] = v := by
      rw [List.getElem?_eq_getElem hlt] at ev
      exact Option.some.inj ev
    rw [ev2, forL_cons] at a2
    cases hb : bindT tg v (kill ρ2 ks) with
    | none =>
      rw [hb] at a2
      exact a2.elim
    | some ρ' =>
      rw [hb] at a2
      refine env_tg (e3.kill ks) rv hb fun σ3 e4 => ?_
      have a3 : Acc K mg W N0 H0 O H3 D (evM c ρ' fun _ ρ'' => forL (fun x ρ => asO (bindT tg x ρ) fun ρ' => evM c ρ' fun _ ρ'' => .nx ρ'') (fun ρ => kill ρ ks) (vs.drop (t + 1)) ρ'') := by
        have e5 : loopR (asO (some ρ') fun ρ' => evM c ρ' fun _ ρ'' => .nx ρ'') (fun ρ' => forL (fun x ρ => asO (bindT tg x ρ) fun ρ' => evM c ρ' fun _ ρ'' => .nx ρ'') (fun ρ => kill ρ ks) (vs.drop (t + 1)) ρ') ks = evM c ρ' fun _ ρ'' => forL (fun x ρ => asO (bindT tg x ρ) fun ρ' => evM c ρ' fun _ ρ'' => .nx ρ'') (fun ρ => kill ρ ks) (vs.drop (t + 1)) ρ'' := loop_evM
        rw [← e5]
        exact a2
      refine call_Mf (k := fun _ ρ'' => forL (fun x ρ => asO (bindT tg x ρ) fun ρ' => evM c ρ' fun _ ρ'' => .nx ρ'') (fun ρ => kill ρ ks) (vs.drop (t + 1)) ρ'') w e4 a3 fun u z H' ρ'' e5 f5 hp r a5 => ?_
      refine ⟨ρ'', e5, ⟨is ++ [c.i], fun z => ?_, f.trans f5⟩, a5⟩
      rcases List.mem_append.mp z with z | z
      · exact hi z
      · exact hne (List.mem_singleton.mp z)
  · rintro σ2 H2 ⟨ρ2, e3, _, a2⟩
    rw [List.drop_length] at a2
    exact a2 O H2 σ2 (e3.kill ks) .refl
end
section
variable {K : PySem.W.Frag} {mg : Str → Option Value} {N0 : Addr → Prop} {H0 : Hp}
mutual
theorem denS (n : Nat) : ∀ (s : S) (W : WX) (D : Ends) (O : Own) (H : Hp) (σ : St) (ρ : Env), wfS s = true → EnvR K N0 H0 O H σ ρ → Acc K mg W N0 H0 O H D (evS n s ρ) → rdS K mg W s D σ H
  | .asg m i e, W, D, O, H, σ, ρ, w, er, h => den_asg (n := n) w er h
  | .own m i e, W, D, O, H, σ, ρ, w, er, h => den_own (n := n) w er h
  | .own2 i e, W, D, O, H, σ, ρ, w, er, h => by
    simp only [wfS, Bool.and_eq_true] at w
    exact den_own2 (n := n) w.1 w.2 er h
  | .odict i k, W, D, O, H, σ, ρ, w, er, h => den_odict (n := n) er h
  | .unp m is e, W, D, O, H, σ, ρ, w, er, h => den_unp (n := n) w er h
  | .par is es, W, D, O, H, σ, ρ, w, er, h => by
    have w' : (wfs es && (is.length == 2 || is.length == 3)) = true := w
    rw [Bool.and_eq_true] at w'
    exact den_par (n := n) w'.1 w'.2 er h
  | .app m i e, W, D, O, H, σ, ρ, w, er, h => den_app (n := n) w er h
  | .appOwn i j, W, D, O, H, σ, ρ, w, er, h => den_appOwn (n := n) er h
  | .ext m i e, W, D, O, H, σ, ρ, w, er, h => den_ext (n := n) w er h
  | .set m i ie e, W, D, O, H, σ, ρ, w, er, h => by
    simp only [wfS, Bool.and_eq_true] at w
    exact den_set (n := n) w.1 w.2 er h
  | .set2 i ie je e, W, D, O, H, σ, ρ, w, er, h => by
    simp only [wfS, Bool.and_eq_true] at w
    exact den_set2 (n := n) w.1.1 w.1.2 w.2 er h
  | .setd m i ke e, W, D, O, H, σ, ρ, w, er, h => by
    simp only [wfS, Bool.and_eq_true] at w
    exact den_setd (n := n) w.1 w.2 er h
  | .compT d elt tg src own, W, D, O, H, σ, ρ, w, er, h => den_compT (n := n) w er h
  | .forO tg i c ks, W, D, O, H, σ, ρ, w, er, h => den_forO (n := n) w er h
  | .appM i e, W, D, O, H, σ, ρ, w, er, h => den_appM (n := n) w er h
  | .pop i j .no, W, D, O, H, σ, ρ, w, er, h => by
    obtain ⟨vs, e1, h⟩ := acc_some (show Acc K mg W N0 H0 O H D (asO (ownOf ρ[j]?) fun vs => asO (popAt vs none) fun p => if i = j then .stuck else .nx ((ρ.set j (.own p.2)).set i (.val p.1))) from h)
    obtain ⟨b, xs, b1, b2, b3, b4, b5, b6⟩ := own_at er e1
    obtain ⟨p, e2, h⟩ := acc_some h
    obtain ⟨y, yv, y1, y2, y3⟩ := popEnd_ok b5 e2
    split at h
    · exact h.elim
    · obtain ⟨er2, x2⟩ := er.write b1 b6 b2 b3 (ws := p.2) (Nat.le_trans y3 b4) y2
      have f : Frm N0 [j] O H O (upd H b (.lst xs.dropLast)) := .write b3 b2 (fun z => z)
      refine ⟨_, b1, Or.inl ⟨rfl, _, SqL.of b2⟩, b, xs, y, rfl, rfl, b2, yv, ?_⟩
      exact h O _ _ (er2.set (f.keep y1)) x2
  | .pop i j (.yes e), W, D, O, H, σ, ρ, w, er, h => den_popAt (n := n) w er h
  | .appPop i j e, W, D, O, H, σ, ρ, w, er, h => den_appPop (n := n) w er h
  | .compPop i j e tg src, W, D, O, H, σ, ρ, w, er, h => by
    simp only [wfS, Bool.and_eq_true] at w
    exact den_compPop (n := n) w.1 w.2 er h
  | .ret e, W, D, O, H, σ, ρ, w, er, h => acc_ev (f := .ret) w er h fun v z H' s r a => a z H' (er.s0.trans s) r
  | .raise c, W, D, O, H, σ, ρ, w, er, h => fun C m => h C O H σ er .refl m
  | .frz i, W, D, O, H, σ, ρ, w, er, h => den_frz (n := n) er h
  | .expr e, W, D, O, H, σ, ρ, w, er, h => acc_ev (f := fun _ => .nx ρ) w er h fun v z H' s r a => a O H' σ (er.same s) .refl
  | .pass, W, D, O, H, σ, ρ, w, er, h => h O H σ er .refl
  | .dead, W, D, O, H, σ, ρ, w, er, h => h
  | .brk, W, D, O, H, σ, ρ, w, er, h => h O H σ er .refl
  | .ite c a b, W, D, O, H, σ, ρ, w, er, h => by
    simp only [wfS, Bool.and_eq_true] at w
    refine acc_test (f := fun k => if k then evSs n a ρ else evSs n b ρ) w.1.1.1 w.1.1.2 er h fun k H' s h' => ?_
    cases k with
    | true => exact denSs n a W D O H' σ ρ w.1.2 (er.same s) h'
    | false => exact denSs n b W D O H' σ ρ w.2 (er.same s) h'
  | .for tg src body ks, W, D, O, H, σ, ρ, w, er, h => by
    simp only [wfS, Bool.and_eq_true] at w
    refine acc_src (f := fun items => forL (fun x ρ => asO (bindT tg x ρ) fun ρ' => evSs n body ρ') (fun ρ => kill ρ ks) items ρ) w.1 er h fun items J H1 G Y s1 hl wk g0 st a => ?_
    have er1 := er.same s1
    have clo : ∀ O2 : Own, ∀ c, Nf N0 O c → H1 c ≠ none → Nf N0 O c ∧ (H1 c ≠ none ∨ O2 c = none) := fun O2 c hc h0 => ⟨hc, .inl h0⟩
    have kp : ∀ O2 H2, Ext N0 O H1 O2 H2 → Keep (fun c => Nf N0 O c ∧ (H1 c ≠ none ∨ O2 c = none)) H1 H2 := fun O2 H2 ⟨is, f⟩ c o hc hh => f.k c o hc (hh.imp (·.1) id)
    refine for_it wk (fun t σ2 H2 => ∃ O2 ρ2, EnvR K N0 H0 O2 H2 σ2 ρ2 ∧ Ext N0 O H1 O2 H2 ∧ Acc K mg W N0 H0 O2 H2 D (forL (fun x ρ => asO (bindT tg x ρ) fun ρ' => evSs n body ρ') (fun ρ => kill ρ ks) (items.drop t) ρ2)) ⟨O, ρ, er1, .refl, a⟩ ?_ ?_ ?_
    · rintro t σ2 H2 ht ⟨O2, ρ2, e2, x2, a2⟩
      exact (st _ (clo O2)).1 H1 H2 (kp O2 H2 x2) g0
    · rintro t x σ2 H2 H3 ht ⟨O2, ρ2, e2, x2, a2⟩ y
      obtain ⟨v, ev, s3, rv⟩ := (st _ (clo O2)).2 t H2 x H3 ht (kp O2 H2 x2) ((st _ (clo O2)).1 H1 H2 (kp O2 H2 x2) g0) y
      have hlt : t < items.length := ht
      rw [List.drop_eq_getElem_cons hlt] at a2
      have ev2 : items[t] = v := by
        rw [List.getElem?_eq_getElem hlt] at ev
        exact Option.some.inj ev
      rw [ev2, forL_cons] at a2
      have a3 := Acc.mono (.same s3) a2
      obtain ⟨is, f2⟩ := x2
      have rv' : Rep K (Nf N0 O2) H3 x v := rv.more fun c hc => ⟨hc.1.1, hc.2.elim (fun h0 => f2.n c h0 hc.1.2) id⟩
      cases hb : bindT tg v (kill ρ2 ks) with
      | none =>
        rw [hb] at a3
        exact a3.elim
      | some ρ' =>
        rw [hb] at a3
        refine env_tg ((e2.same s3).kill ks) rv' hb fun σ3 e3 => ?_
        refine denSs n body W _ O2 H3 σ3 ρ' w.2 e3 (acc_body _ a3 fun O' H' σ' ρ'' e4 x4 a4 => ⟨O', ρ'', e4, (Ext.trans ⟨is, f2⟩ (.same s3)).trans x4, a4⟩)
    · rintro σ2 H2 ⟨O2, ρ2, e2, x2, a2⟩
      rw [List.drop_length] at a2
      exact a2 O2 H2 σ2 (e2.kill ks) .refl
  | .while c body ks, W, D, O, H, σ, ρ, w, er, h => by
    simp only [wfS, Bool.and_eq_true] at w
    refine ⟨fun m σ2 H2 => ∃ O2 ρ2, EnvR K N0 H0 O2 H2 σ2 ρ2 ∧ Acc K mg W N0 H0 O2 H2 D (whileL (fun ρ => evE c ρ) (fun ρ => evSs n body ρ) (fun ρ => kill ρ ks) m ρ2), ⟨n, O, ρ, er, h⟩, ?_⟩
    rintro m σ2 H2 ⟨O2, ρ2, e2, a2⟩
    cases m with
    | zero => exact a2.elim
    | succ m =>
      rw [whileL_succ] at a2
      refine acc_test (f := fun b => if b then loopR (evSs n body (kill ρ2 ks)) (fun ρ' => whileL (fun ρ => evE c ρ) (fun ρ => evSs n body ρ) (fun ρ => kill ρ ks) m ρ') ks else .nx (kill ρ2 ks)) w.1.1 w.1.2 (e2.kill ks) a2 fun b H3 s3 a3 => ?_
      cases b with
      | true =>
        rw [if_pos rfl] at a3 ⊢
        refine ⟨fun σ' H' => ∃ O2 ρ2, EnvR K N0 H0 O2 H' σ' ρ2 ∧ Acc K mg W N0 H0 O2 H' D (whileL (fun ρ => evE c ρ) (fun ρ => evSs n body ρ) (fun ρ => kill ρ ks) m ρ2), fun σ' H' hh => ⟨m, Nat.lt_succ_self m, hh⟩, ?_⟩
        exact denSs n body W _ O2 H3 σ2 _ w.2 ((e2.kill ks).same s3) (acc_body _ a3 fun O' H' σ' ρ'' e4 x4 a4 => ⟨O', ρ'', e4, a4⟩)
      | false =>
        rw [if_neg Bool.false_ne_true] at a3 ⊢
        exact a3 O2 H3 σ2 ((e2.kill ks).same s3) .refl
  | .forPop tg a j c body ks, W, D, O, H, σ, ρ, w, er, h => by
    simp only [wfS, Bool.and_eq_true] at w
    obtain ⟨vs, e1, h⟩ := acc_some (show Acc K mg W N0 H0 O H D (asO (ownOf ρ[j]?) fun vs => (storeV .plain a ρ).out ρ fun x => asO (popAt vs none) fun p => (idxV x p.1).out ρ fun y => (idxV y (.int c)).out ρ fun z => (itemsR z).out ρ fun items =>
      forL (fun x ρ => asO (bindT tg x ρ) fun ρ' => evSs n body ρ') (fun ρ => kill ρ ks) items (ρ.set j (.own p.2))) from h)
    obtain ⟨b, xs, b1, b2, b3, b4, b5, b6⟩ := own_at er e1
    refine acc_store (m := .plain) w.1 er h fun x z H1 s1 rz _ h => ?_
    obtain ⟨p, e2, h⟩ := acc_some h
    obtain ⟨y, yv, y1, y2, y3⟩ := popEnd_ok (b5.same s1) e2
    have h := Acc.mono (.same s1) h
    have er1 := er.same s1
    obtain ⟨er2, x2⟩ := er1.write b1 b6 (s1 _ _ b2) b3 (ws := p.2) (Nat.le_trans y3 b4) y2
    have f : Frm N0 [j] O H1 O (upd H1 b (.lst xs.dropLast)) := .write b3 (s1 _ _ b2) (fun z => z)
    refine ⟨_, b1, Or.inl ⟨rfl, _, SqL.of (s1 _ _ b2)⟩, b, xs, y, rfl, rfl, s1 _ _ b2, yv, ?_⟩
    have i1 : ∃ y0, idxV x p.1 = .ok y0 := by
      cases e3 : idxV x p.1 with
      | ok y0 => exact ⟨y0, rfl⟩
      | exc k => exact absurd e3 (idx_nx _ _ _)
      | stuck =>
        rw [e3] at h
        exact h.elim
    obtain ⟨y0, e3⟩ := i1
    rw [e3] at h
    have h : Acc K mg W N0 H0 O H1 D ((idxV y0 (.int c)).out ρ fun z => (itemsR z).out ρ fun items =>
      forL (fun x ρ => asO (bindT tg x ρ) fun ρ' => evSs n body ρ') (fun ρ => kill ρ ks) items (ρ.set j (.own p.2))) := h
    have i2 : ∃ z0, idxV y0 (.int c) = .ok z0 := by
      cases e4 : idxV y0 (.int c) with
      | ok z0 => exact ⟨z0, rfl⟩
      | exc k => exact absurd e4 (idx_nx _ _ _)
      | stuck =>
        rw [e4] at h
        exact h.elim
    obtain ⟨z0, e4⟩ := i2
    rw [e4] at h
    have h : Acc K mg W N0 H0 O H1 D ((itemsR z0).out ρ fun items =>
      forL (fun x ρ => asO (bindT tg x ρ) fun ρ' => evSs n body ρ') (fun ρ => kill ρ ks) items (ρ.set j (.own p.2))) := h
    have i3 : ∃ items, itemsR z0 = .ok items := by
      cases e5 : itemsR z0 with
      | ok z0 => exact ⟨z0, rfl⟩
      | exc k => exact absurd e5 itemsR_nx
      | stuck =>
        rw [e5] at h
        exact h.elim
    obtain ⟨items, e5⟩ := i3
    rw [e5] at h
    have h : Acc K mg W N0 H0 O H1 D (forL (fun x ρ => asO (bindT tg x ρ) fun ρ' => evSs n body ρ') (fun ρ => kill ρ ks) items (ρ.set j (.own p.2))) := h
    refine idx_ok (f.keep rz) (f.keep y1) e3 fun u H3 s3 ru => ?_
    refine idx_ok ru (.int c) e4 fun u2 H4 s4 ru2 => ?_
    refine seq_walk (R := forR (rdTg K tg) (rdSs K mg W body) D σ) ru2 e5 fun J G Y hl wk g0 st => ?_
    have a := Acc.mono (.same s4) (Acc.mono (.same s3) (Acc.mono x2 h))
    have er1 := (er2.same s3).same s4
    have clo : ∀ O2 : Own, ∀ c, Nf N0 O c → H4 c ≠ none → Nf N0 O c ∧ (H4 c ≠ none ∨ O2 c = none) := fun O2 c hc h0 => ⟨hc, .inl h0⟩
    have kp : ∀ O2 H2, Ext N0 O H4 O2 H2 → Keep (fun c => Nf N0 O c ∧ (H4 c ≠ none ∨ O2 c = none)) H4 H2 := fun O2 H2 ⟨is, f⟩ c o hc hh => f.k c o hc (hh.imp (·.1) id)
    refine for_it wk (fun t σ2 H2 => ∃ O2 ρ2, EnvR K N0 H0 O2 H2 σ2 ρ2 ∧ Ext N0 O H4 O2 H2 ∧ Acc K mg W N0 H0 O2 H2 D (forL (fun x ρ => asO (bindT tg x ρ) fun ρ' => evSs n body ρ') (fun ρ => kill ρ ks) (items.drop t) ρ2)) ⟨O, _, er1, .refl, a⟩ ?_ ?_ ?_
    · rintro t σ2 H2 ht ⟨O2, ρ2, e2, x2, a2⟩
      exact (st _ (clo O2)).1 H4 H2 (kp O2 H2 x2) g0
    · rintro t x σ2 H2 H9 ht ⟨O2, ρ2, e2, x2, a2⟩ y
      obtain ⟨v, ev, s9, rv⟩ := (st _ (clo O2)).2 t H2 x H9 ht (kp O2 H2 x2) ((st _ (clo O2)).1 H4 H2 (kp O2 H2 x2) g0) y
      have hlt : t < items.length := ht
      rw [List.drop_eq_getElem_cons hlt] at a2
      have ev2 : items[t] = v := by
        rw [List.getElem?_eq_getElem hlt] at ev
        exact Option.some.inj ev
      rw [ev2, forL_cons] at a2
      have a3 := Acc.mono (.same s9) a2
      obtain ⟨is, f2⟩ := x2
      have rv' : Rep K (Nf N0 O2) H9 x v := rv.more fun c hc => ⟨hc.1.1, hc.2.elim (fun h0 => f2.n c h0 hc.1.2) id⟩
      cases hb : bindT tg v (kill ρ2 ks) with
      | none =>
        rw [hb] at a3
        exact a3.elim
      | some ρ' =>
        rw [hb] at a3
        refine env_tg ((e2.same s9).kill ks) rv' hb fun σ3 e3 => ?_
        refine denSs n body W _ O2 H9 σ3 ρ' w.2 e3 (acc_body _ a3 fun O' H' σ' ρ'' e4 x4 a4 => ⟨O', ρ'', e4, (Ext.trans ⟨is, f2⟩ (.same s9)).trans x4, a4⟩)
    · rintro σ2 H2 ⟨O2, ρ2, e2, x2, a2⟩
      rw [List.drop_length] at a2
      exact a2 O2 H2 σ2 (e2.kill ks) .refl
  | .forR tg a0 body ks, W, D, O, H, σ, ρ, w, er, h => by
    simp only [wfS, Bool.and_eq_true] at w
    refine acc_int (f := fun i => (rangeR 0 i).out ρ fun items => forL (fun x ρ => asO (bindT tg x ρ) fun ρ' => evSs n body ρ') (fun ρ => kill ρ ks) items ρ) w.1 er h fun i H4 s4 h => ?_
    have i3 : ∃ items, rangeR 0 i = .ok items := by
      cases e5 : rangeR 0 i with
      | ok z0 => exact ⟨z0, rfl⟩
      | exc k => exact absurd e5 rangeR_nx
      | stuck =>
        rw [e5] at h
        exact h.elim
    obtain ⟨items, e5⟩ := i3
    rw [e5] at h
    have a : Acc K mg W N0 H0 O H4 D (forL (fun x ρ => asO (bindT tg x ρ) fun ρ' => evSs n body ρ') (fun ρ => kill ρ ks) items ρ) := h
    obtain ⟨⟨q1, q2, q3, q4, q5⟩, hit⟩ := rangeR_ok e5
    rw [Int.sub_zero] at q5 hit
    refine ⟨i, rfl, q3, q4, ?_⟩
    have wk : L2.Walk (Itr 0 i.toNat) items.length (fun _ => True) (YFn fun k => .int (0 + (k : Nat))) := by
      rw [hit, rangeV_length]
      exact walk_range
    have st : Stays K (Nf N0 O) H4 items (fun _ => True) (YFn fun k => .int (0 + (k : Nat))) := by
      rw [hit]
      exact stays_range
    have g0 : True := trivial
    have er1 := er.same s4
    have clo : ∀ O2 : Own, ∀ c, Nf N0 O c → H4 c ≠ none → Nf N0 O c ∧ (H4 c ≠ none ∨ O2 c = none) := fun O2 c hc h0 => ⟨hc, .inl h0⟩
    have kp : ∀ O2 H2, Ext N0 O H4 O2 H2 → Keep (fun c => Nf N0 O c ∧ (H4 c ≠ none ∨ O2 c = none)) H4 H2 := fun O2 H2 ⟨is, f⟩ c o hc hh => f.k c o hc (hh.imp (·.1) id)
    refine for_it wk (fun t σ2 H2 => ∃ O2 ρ2, EnvR K N0 H0 O2 H2 σ2 ρ2 ∧ Ext N0 O H4 O2 H2 ∧ Acc K mg W N0 H0 O2 H2 D (forL (fun x ρ => asO (bindT tg x ρ) fun ρ' => evSs n body ρ') (fun ρ => kill ρ ks) (items.drop t) ρ2)) ⟨O, _, er1, .refl, a⟩ ?_ ?_ ?_
    · rintro t σ2 H2 ht ⟨O2, ρ2, e2, x2, a2⟩
      exact (st _ (clo O2)).1 H4 H2 (kp O2 H2 x2) g0
    · rintro t x σ2 H2 H9 ht ⟨O2, ρ2, e2, x2, a2⟩ y
      obtain ⟨v, ev, s9, rv⟩ := (st _ (clo O2)).2 t H2 x H9 ht (kp O2 H2 x2) ((st _ (clo O2)).1 H4 H2 (kp O2 H2 x2) g0) y
      have hlt : t < items.length := ht
      rw [List.drop_eq_getElem_cons hlt] at a2
      have ev2 : items[t] = v := by
        rw [List.getElem?_eq_getElem hlt] at ev
        exact Option.some.inj ev
      rw [ev2, forL_cons] at a2
      have a3 := Acc.mono (.same s9) a2
      obtain ⟨is, f2⟩ := x2
      have rv' : Rep K (Nf N0 O2) H9 x v := rv.more fun c hc => ⟨hc.1.1, hc.2.elim (fun h0 => f2.n c h0 hc.1.2) id⟩
      cases hb : bindT tg v (kill ρ2 ks) with
      | none =>
        rw [hb] at a3
        exact a3.elim
      | some ρ' =>
        rw [hb] at a3
        refine env_tg ((e2.same s9).kill ks) rv' hb fun σ3 e3 => ?_
        refine denSs n body W _ O2 H9 σ3 ρ' w.2 e3 (acc_body _ a3 fun O' H' σ' ρ'' e4 x4 a4 => ⟨O', ρ'', e4, (Ext.trans ⟨is, f2⟩ (.same s9)).trans x4, a4⟩)
    · rintro σ2 H2 ⟨O2, ρ2, e2, x2, a2⟩
      rw [List.drop_length] at a2
      exact a2 O2 H2 σ2 (e2.kill ks) .refl
  | .forM tg e body ks, W, D, O, H, σ, ρ, w, er, h => by
    simp only [wfS, Bool.and_eq_true] at w
    refine acc_store (m := .fresh) (f := fun v => (itemsR v).out ρ fun items => forL (fun x ρ => asO (bindT tg x ρ) fun ρ' => evSs n body ρ') (fun ρ => kill ρ ks) items ρ) w.1 er h fun x z H4 s4 rz _ h => ?_
    have i3 : ∃ items, itemsR x = .ok items := by
      cases e5 : itemsR x with
      | ok z0 => exact ⟨z0, rfl⟩
      | exc k => exact absurd e5 itemsR_nx
      | stuck =>
        rw [e5] at h
        exact h.elim
    obtain ⟨items, e5⟩ := i3
    rw [e5] at h
    have h : Acc K mg W N0 H0 O H D (forL (fun x ρ => asO (bindT tg x ρ) fun ρ' => evSs n body ρ') (fun ρ => kill ρ ks) items ρ) := h
    refine seq_walk (R := forR (rdTg K tg) (rdSs K mg W body) D σ) rz e5 fun J G Y hl wk g0 st => ?_
    have a := Acc.mono (.same s4) h
    have er1 := er.same s4
    have clo : ∀ O2 : Own, ∀ c, Nf N0 O c → H4 c ≠ none → Nf N0 O c ∧ (H4 c ≠ none ∨ O2 c = none) := fun O2 c hc h0 => ⟨hc, .inl h0⟩
    have kp : ∀ O2 H2, Ext N0 O H4 O2 H2 → Keep (fun c => Nf N0 O c ∧ (H4 c ≠ none ∨ O2 c = none)) H4 H2 := fun O2 H2 ⟨is, f⟩ c o hc hh => f.k c o hc (hh.imp (·.1) id)
    refine for_it wk (fun t σ2 H2 => ∃ O2 ρ2, EnvR K N0 H0 O2 H2 σ2 ρ2 ∧ Ext N0 O H4 O2 H2 ∧ Acc K mg W N0 H0 O2 H2 D (forL (fun x ρ => asO (bindT tg x ρ) fun ρ' => evSs n body ρ') (fun ρ => kill ρ ks) (items.drop t) ρ2)) ⟨O, _, er1, .refl, a⟩ ?_ ?_ ?_
    · rintro t σ2 H2 ht ⟨O2, ρ2, e2, x2, a2⟩
      exact (st _ (clo O2)).1 H4 H2 (kp O2 H2 x2) g0
    · rintro t x σ2 H2 H9 ht ⟨O2, ρ2, e2, x2, a2⟩ y
      obtain ⟨v, ev, s9, rv⟩ := (st _ (clo O2)).2 t H2 x H9 ht (kp O2 H2 x2) ((st _ (clo O2)).1 H4 H2 (kp O2 H2 x2) g0) y
      have hlt : t < items.length := ht
      rw [List.drop_eq_getElem_cons hlt] at a2
      have ev2 : items[t] = v := by
        rw [List.getElem?_eq_getElem hlt] at ev
        exact Option.some.inj ev
      rw [ev2, forL_cons] at a2
      have a3 := Acc.mono (.same s9) a2
      obtain ⟨is, f2⟩ := x2
      have rv' : Rep K (Nf N0 O2) H9 x v := rv.more fun c hc => ⟨hc.1.1, hc.2.elim (fun h0 => f2.n c h0 hc.1.2) id⟩
      cases hb : bindT tg v (kill ρ2 ks) with
      | none =>
        rw [hb] at a3
        exact a3.elim
      | some ρ' =>
        rw [hb] at a3
        refine env_tg ((e2.same s9).kill ks) rv' hb fun σ3 e3 => ?_
        refine denSs n body W _ O2 H9 σ3 ρ' w.2 e3 (acc_body _ a3 fun O' H' σ' ρ'' e4 x4 a4 => ⟨O', ρ'', e4, (Ext.trans ⟨is, f2⟩ (.same s9)).trans x4, a4⟩)
    · rintro σ2 H2 ⟨O2, ρ2, e2, x2, a2⟩
      rw [List.drop_length] at a2
      exact a2 O2 H2 σ2 (e2.kill ks) .refl
  | .try1 body c e j, W, D, O, H, σ, ρ, w, er, h => fun ok C hC => by
    refine denSs n body _ D O H σ ρ w er ?_
    have h' : Acc K mg W N0 H0 O H D (match evSs n body ρ with
      | .exc d ρ' => if d ∈ XN ∧ c ∈ XN ∧ excBelow d c = true ∧ e ≠ j ∧ e < ρ'.length then .nx ((ρ'.set j (.val (.exc d))).set e .non) else .stuck
      | o => o) := h
    cases ho : evSs n body ρ with
    | nx ρ' =>
      rw [ho] at h'
      exact h'
    | ret v =>
      rw [ho] at h'
      exact h'
    | brk ρ' =>
      rw [ho] at h'
      exact h'
    | stuck =>
      rw [ho] at h'
      exact h'
    | retM v ρ' =>
      rw [ho] at h'
      exact h'
    | exc d ρ' =>
      rw [ho] at h'
      simp only at h'
      split at h'
      · rename_i hc
        obtain ⟨hd, hcx, hb, hne, hlt⟩ := hc
        intro C' O' H' σ' e' x m
        obtain ⟨k1, k2⟩ := ok d hd C' m
        refine ⟨rfl, ?_, fun a ha => ?_⟩
        · rw [k2.ex c C hcx (ok c hcx C hC).1, hb]
        · have hlt' : e < σ'.length := by rw [e'.len]; exact hlt
          refine ⟨.ref a, by rw [List.getElem?_set_self hlt'], ?_⟩
          refine fun ha' => h' O' (upd H' a (ExK (.ref C') a)) _ ?_ (x.trans ⟨[], .of_same (same_upd ha)⟩)
          have f : Frm N0 [] O' H' O' (upd H' a (ExK (.ref C') a)) := .of_same (same_upd ha)
          refine e'.frm f (fun b i ob => ⟨(e'.o0 b i ob).1, f.l b (e'.o0 b i ob).2⟩) ?_ (fun i s hi => ?_) (e'.s0.trans (same_upd ha))
          · rw [List.length_set, List.length_set, List.length_set, List.length_set, List.length_set]
            exact e'.len
          · by_cases q : i = e
            · subst q
              rw [List.getElem?_set_self (by rw [List.length_set]; exact hlt)] at hi
              cases hi
              exact .inr .non
            · rw [List.getElem?_set_ne (Ne.symm q)] at hi ⊢
              by_cases q2 : i = j
              · subst q2
                rw [List.getElem?_set] at hi
                rw [if_pos rfl] at hi
                split at hi
                · rename_i hl
                  cases hi
                  rw [List.getElem?_set_self (by rw [List.length_set, e'.len]; exact hl)]
                  exact .inr (.val (.exc upd_same k2 hd))
                · cases hi
              · rw [List.getElem?_set_ne (Ne.symm q2)] at hi ⊢
                rw [List.getElem?_set_ne (Ne.symm q)]
                exact .inl ⟨List.not_mem_nil, hi, rfl⟩
      · exact h'.elim
  | .retM e, W, D, O, H, σ, ρ, w, er, h => acc_ev (f := fun v => if v.pure then .retM v ρ else .stuck) w er h fun v z H' s r a => by
    split at a
    · rename_i hp
      exact a z O H' σ (er.same s) hp (r.ofPure hp)
    · exact a.elim
  | .setA i f e, W, D, O, H, σ, ρ, w, er, h => den_setA (n := n) w er h
  | .callM d c, W, D, O, H, σ, ρ, w, er, h => den_callM (n := n) w er h
  | .iteM q c a b, W, D, O, H, σ, ρ, w, er, h => by
    simp only [wfS, Bool.and_eq_true] at w
    obtain ⟨⟨⟨w1, w2⟩, w3⟩, w4⟩ := w
    have call : ∀ H1, EnvR K N0 H0 O H1 σ ρ → Acc K mg W N0 H0 O H1 D (evM c ρ fun v ρ' => asO (boolOf v) fun k => if k then evSs n a ρ' else evSs n b ρ') → tB (rdMC K mg W c) σ H1 fun b' H2 => if b' = true then rdSs K mg W a D σ H2 else rdSs K mg W b D σ H2 := fun H1 er1 h1 =>
      call_M (k := fun v ρ' => asO (boolOf v) fun k => if k then evSs n a ρ' else evSs n b ρ') w2 er1 h1 fun v z H2 ρ' er2 x2 hp r a2 => by
        cases r with
        | bool k =>
          refine ⟨k, rfl, ?_⟩
          cases k with
          | true => exact denSs n a W D O H2 σ ρ' w3 er2 a2
          | false => exact denSs n b W D O H2 σ ρ' w4 er2 a2
        | _ => exact a2.elim
    cases q with
    | no => exact call H er h
    | yes e =>
      simp only [wfc, Bool.and_eq_true] at w1
      refine acc_test (f := fun k0 => if k0 then evM c ρ fun v ρ' => asO (boolOf v) fun k => if k then evSs n a ρ' else evSs n b ρ' else evSs n b ρ) w1.1 w1.2 er h fun k H' s h' => ?_
      cases k with
      | true => exact call H' (er.same s) h'
      | false => exact denSs n b W D O H' σ ρ w4 (er.same s) h'
  | .callM2 d q c1 c2, W, D, O, H, σ, ρ, w, er, h => by
    simp only [wfS, Bool.and_eq_true] at w
    exact den_callM2 (n := n) w.1.1.1 w.1.1.2 w.1.2 w.2 er h
  | .newK d F es, W, D, O, H, σ, ρ, w, er, h => den_newK (n := n) w er h
  | .revN i, W, D, O, H, σ, ρ, w, er, h => h.elim
  | .deepC i x F es, W, D, O, H, σ, ρ, w, er, h => den_deepC (n := n) w er h
  | .copyD j x F i, W, D, O, H, σ, ρ, w, er, h => den_copyD (n := n) er h
  | .spoilD x d i, W, D, O, H, σ, ρ, w, er, h => den_spoilD (n := n) er h
  | .spoilE x e, W, D, O, H, σ, ρ, w, er, h => den_spoilE (n := n) w er h
  | .newK2 d1 d2 F es1 es2, W, D, O, H, σ, ρ, w, er, h => by
    simp only [wfS, Bool.and_eq_true] at w
    exact den_newK2 (n := n) w.1 w.2 er h
  | .setdMax i ke tg src x j F es, W, D, O, H, σ, ρ, w, er, h => by
    simp only [wfS, Bool.and_eq_true] at w
    exact den_setdMax (n := n) w.1.1 w.1.2 w.2 er h
  | .retD x j F es, W, D, O, H, σ, ρ, w, er, h => den_retD (n := n) w er h
termination_by structural s => s
theorem denSs (n : Nat) : ∀ (s : Ss) (W : WX) (D : Ends) (O : Own) (H : Hp) (σ : St) (ρ : Env), wfSs s = true → EnvR K N0 H0 O H σ ρ → Acc K mg W N0 H0 O H D (evSs n s ρ) → rdSs K mg W s D σ H
  | .nil, W, D, O, H, σ, ρ, w, er, h => h O H σ er .refl
  | .cons s ss, W, D, O, H, σ, ρ, w, er, h => by
    simp only [wfSs, Bool.and_eq_true] at w
    exact denS n s W { D with nx := rdSs K mg W ss D } O H σ ρ w.1 er (Acc.seq (D := D) (rdSs K mg W ss D) h fun O' H' σ' ρ' e x a => denSs n ss W D O' H' σ' ρ' w.2 e a)
termination_by structural s => s
end
end
end Lh
set_option Elab.async false
set_option linter.all false
set_option maxRecDepth 100000
set_option maxHeartbeats 8000000
namespace Lh
open PySem PySem.Spec PyProof.Rows L2
abbrev MP := MKd → Str → Nat → (List Val → Cont → OutM) → Prop
def WhereM (K : PySem.W.Frag) (mg : Str → Option Value) : MKd → Str → Addr → Prop
  | .fn, m, f => mg m = some (.ref f) ∧ PySem.W.keepIn K (.ref f) = true
  | .meth, m, f => Cls K (C0 K) ∧ (m ≠ "__init__" → Meth K (C0 K) m f) ∧ (m = "__init__" → Mk K (C0 K) f ∧ mg "Keeper" = some (.ref (C0 K)))
/-- a def that changes its j-th argument, by its name -/
def HasCM (P : Program) (w : World) (K : PySem.W.Frag) (mg : Str → Option Value) (base : Heap) (A : Around) : MP := fun kd m j F =>
  ∃ (k : Nat) (f : Addr) (fd : FuncData) (ps : List Str), FnOk P w K mg base (L2.CX P w) k f fd ps (PSpM K mg j F) ∧ Room (k + 1) A ∧ WhereM K mg kd m f ∧ Binds K fd ps []
abbrev MM (X : Cx) : MP := HasCM X.prog X.w X.K X.mg X.base X.A
/-- f(.., x, ..) with the slot's own at the j-th place -/
def mFn (N : List Str) (sc : Scope) (m : Str) (es : Es) : Expr → Bool
  | .Call (.Name y _) args [] _ => decide (y = m) && (glB sc y && (okN y && (decide (args ≠ []) && mEs N sc es args)))
  | _ => false
def mMC (N : List Str) (sc : Scope) (c : MC) (x : Expr) : Bool := match c.k with
  | .fn => mFn N sc c.m (insX c.j (.var c.i) c.es) x
  | .meth => (match x with
    | .Call (.Attribute (.Name y _) z ap) args [] cp => decide (z = c.m) && (decide (c.m ≠ "__init__") && (decide (c.j = 0) && (decide (N[c.i]? = some y) && (visB sc y && (okN y && ((ap.endLine == cp.line) && (decide (args.length < 30) && mEs N sc c.es args)))))))
    | _ => false)
theorem UEs_insX {C : CP} {G : GP} : ∀ {j : Nat} {x : E} {es : Es}, UE C G x → UEs C G es → UEs C G (insX j x es)
  | 0, x, es, hx, h => ⟨hx, h⟩
  | j + 1, x, .cons e es, hx, h => ⟨h.1, UEs_insX hx h.2⟩
  | _ + 1, x, .nil, hx, h => ⟨hx, trivial⟩
section
variable {X : Cx} {W : WX}
theorem pe_fn {m : Str} {j : Nat} {F : List Val → Cont → OutM} {es : Es} {x : Expr} (g : Gd X) (tk : Takes X W) (u1 : MM X .fn m j F) (u2 : UEs (CC X) (GG X) es) (h : mFn X.N X.env.scope m es x = true) : PE X x (tCallS (PSpM X.K X.mg j F) (WE W) (rdEs X.K X.mg W es)) := by
  obtain ⟨k, fa, fd, ps, FO, hr, wh, hb⟩ := u1
  cases x with
  | Call fn args kws pos =>
    match fn, args, kws, h with
    | .Name y p, args, [], h =>
      obtain ⟨h1, h⟩ := bd h
      obtain ⟨h2, h⟩ := ba h
      obtain ⟨h3, h⟩ := ba h
      obtain ⟨h4, h5⟩ := bd h
      subst h1
      cases args with
      | nil => exact absurd rfl h4
      | cons a args =>
        have st : (a :: args).all notStar = true := stars es X.N X.env.scope _ h5
        rw [List.all_cons, Bool.and_eq_true] at st
        exact pe_callS FO (hr.mono (Nat.le_succ _)) (glB_ok h2) wh.1 wh.2 hb (fun σ => passAt tk σ) (mats es X W (a :: args) g tk u2 h5) (okN1 h3) (star_cons st.1) (star_any st.2)
  | _ => exact nomatch h
theorem pe_MC {c : MC} {x : Expr} (g : Gd X) (tk : Takes X W) (u1 : MM X c.k c.m c.j c.F) (u2 : UEs (CC X) (GG X) c.es) (h : mMC X.N X.env.scope c x = true) : PE X x (rdMC X.K X.mg W c) := by
  obtain ⟨ck, ci, cm, cj, cF, ces⟩ := c
  cases ck with
  | fn => exact pe_fn g tk u1 (UEs_insX (x := .var ci) trivial u2) h
  | meth =>
    obtain ⟨k, fa, fd, ps, FO, hr, wh, hb⟩ := u1
    have hr' := hr.mono (Nat.le_succ k)
    cases x with
    | Call fn args kws pos =>
      match fn, args, kws, h with
      | .Attribute (.Name y p) z ap, args, [], h =>
        obtain ⟨h1, h⟩ := bd h
        obtain ⟨hi, h⟩ := bd h
        obtain ⟨hj, h⟩ := bd h
        obtain ⟨h2, h⟩ := bd h
        obtain ⟨h3, h⟩ := ba h
        obtain ⟨h4, h⟩ := ba h
        obtain ⟨h5, h⟩ := ba h
        obtain ⟨h30, h6⟩ := bd h
        have hj : cj = 0 := hj
        have h1 : z = cm := h1
        subst h1
        subst hj
        have pv := pe_var (pos := p) h2 (visB_ok h3) (okN1 h4) (okN2 h4)
        have hm := wh.2.1 hi
        cases args with
        | nil =>
          have e0 : ces = .nil := by
            cases ces with
            | nil => rfl
            | cons _ _ => exact nomatch h6
          subst e0
          exact pe_methZ0 pv wh.1 hm FO hr' hb (fun σ => passAt tk σ) h5
        | cons a args =>
          have st : (a :: args).all notStar = true := stars ces X.N X.env.scope _ h6
          exact pe_methZ pv wh.1 hm FO hr' hb (fun σ => passAt tk σ) (mats ces X W (a :: args) g tk u2 h6) st h30 h5
    | _ => exact nomatch h
/-- Keeper(..) -/
def mNew (N : List Str) (sc : Scope) (es : Es) : Expr → Bool
  | .Call (.Name y _) args [] _ => decide (y = "Keeper") && (glB sc y && (decide (args ≠ []) && mEs N sc es args))
  | _ => false
theorem pass_never {P : Program} {w : World} : Passes (L2.CX P w) X tNever' := fun _ _ _ _ _ _ _ c => by
  obtain ⟨_, _, _, _, _, _, _, _, _, _, _, _, z⟩ := c
  exact z.elim
theorem pe_new {F : List Val → Cont → OutM} {es : Es} {x : Expr} (g : Gd X) (tk : Takes X W) (u1 : MM X .meth "__init__" 0 F) (u2 : UEs (CC X) (GG X) es) (h : mNew X.N X.env.scope es x = true) : PE X x (tMake (C0 X.K) (PSpM X.K X.mg 0 F) [] tNever' (rdEs X.K X.mg W es)) := by
  obtain ⟨k, fa, fd, ps, FO, hr, wh, hb⟩ := u1
  obtain ⟨mk, hm⟩ := wh.2.2 rfl
  cases x with
  | Call fn args kws pos =>
    match fn, args, kws, h with
    | .Name y p, args, [], h =>
      obtain ⟨h1, h⟩ := bd h
      obtain ⟨h2, h⟩ := ba h
      obtain ⟨h4, h5⟩ := bd h
      subst h1
      cases args with
      | nil => exact absurd rfl h4
      | cons a args =>
        have st : (a :: args).all notStar = true := stars es X.N X.env.scope _ h5
        rw [List.all_cons, Bool.and_eq_true] at st
        exact pe_make mk FO hr (glB_ok h2) hm hb .nil pass_never (mats es X W (a :: args) g tk u2 h5) (by decide) (star_cons st.1) (star_any st.2)
  | _ => exact nomatch h
/-- [1 + f(..) for x in xs], then max(.., default=0) -/
def asMax : Expr → Option (Expr × Expr × Pos × Pos × Pos)
  | .Call (.Name y p) [e] [⟨some n, z, kp⟩] pos => if decide (y = "max") && decide (n = "default") then some (e, z, p, kp, pos) else none
  | _ => none
theorem asMax_ok {x : Expr} {q : Expr × Expr × Pos × Pos × Pos} (h : asMax x = some q) : x = .Call (.Name "max" q.2.2.1) [q.1] [⟨some "default", q.2.1, q.2.2.2.1⟩] q.2.2.2.2 := by
  unfold asMax at h
  split at h
  · split at h
    · rename_i hh
      rw [Bool.and_eq_true, decide_eq_true_eq, decide_eq_true_eq] at hh
      obtain ⟨h1, h2⟩ := hh
      subst h1
      subst h2
      cases h
      rfl
    · cases h
  · cases h
def asAdd : Expr → Option (Expr × Expr × Pos)
  | .BinOp y .Add z p => some (y, z, p)
  | _ => none
theorem asAdd_ok {x : Expr} {q : Expr × Expr × Pos} (h : asAdd x = some q) : x = .BinOp q.1 .Add q.2.1 q.2.2 := by
  unfold asAdd at h
  split at h
  · cases h
    rfl
  · cases h
end
end Lh
set_option Elab.async false
set_option linter.all false
set_option maxRecDepth 100000
set_option maxHeartbeats 8000000
namespace Lh
open PySem PySem.Spec PyProof.Rows L2
def isComp : Expr → Bool
  | .ListComp _ _ _ _ => true
  | .SetComp _ _ _ _ => true
  | .DictComp _ _ _ _ _ => true
  | _ => false
theorem sw_no {e : Expr} {t : Option Expr} {l : Nat} {env : PySem.Env} (h : isComp e = false) : swapsWith e t l env = pure false := by
  cases e <;> first | rfl | cases h
theorem sw_tgt {e t : Expr} {l : Nat} {env : PySem.Env} (h : ∀ y p, t ≠ .Name y p) : swapsWith e (some t) l env = pure false := by
  cases t <;> first
    | exact absurd rfl (h _ _)
    | (cases e <;> rfl)
theorem sw_sole {e t : Expr} {l : Nat} {env : PySem.Env} (h : ∀ y p, t ≠ .Name y p) : swapsWithSole [t] e l env = pure false := sw_tgt h
theorem stores_no {t e : Expr} {env : PySem.Env} (h : isTup e = false) : swappedStores [t] e env = pure none := by
  cases e <;> first
    | (cases h; done)
    | (cases t <;> rfl)
theorem stores_tg {t e : Expr} {env : PySem.Env} (h : ∀ l k p, t ≠ .Tuple l k p) (h2 : ∀ l p, t ≠ .List l p) : swappedStores [t] e env = pure none := by
  cases t <;> first
    | exact absurd rfl (h _ _ _)
    | exact absurd rfl (h2 _ _)
    | (cases e <;> rfl)
theorem sw_cell {elt : Expr} {gs : List Comprehension} {scope : Scope} {pos py : Pos} {y : Str} {l : Nat} {env : PySem.Env} (hy : env.scope.names.lookup y = some .cell) : swapsWith (.ListComp elt gs scope pos) (some (.Name y py)) l env = pure false := by
  have ky : env.kindOf y = some .cell := hy
  unfold swapsWith
  simp only [ky]
  cases env.blockKind <;> rfl
/-- a tuple of constants -/
def constTup : Expr → Bool
  | .Tuple l _ _ => l.all (foldedForSure 8)
  | _ => false
theorem stores_const {t e : Expr} {env : PySem.Env} (h : constTup e = true) : swappedStores [t] e env = pure none := by
  cases e with
  | Tuple l k p =>
    have h' : l.all (foldedForSure 8) = true := h
    unfold swappedStores
    cases t <;> simp [h'] <;> (repeat' split) <;> rfl
  | _ => cases h
/-- may the comprehension's list be laid straight at the name -/
def swB (sc : Scope) (y : Str) (py : Pos) : Expr → Bool
  | .ListComp _ _ scope pos => (match sc.names.lookup y with
    | some .local => (py.line == pos.line) && !(scope.names.any fun (n, k) => n == y && (k == .local || k == .cell))
    | some .cell => true
    | _ => false)
  | e => !isComp e
def locB (sc : Scope) (y : Str) : Bool := match sc.names.lookup y with
  | some .local => true
  | some .cell => true
  | _ => false
theorem locB_ok {sc : Scope} {y : Str} (h : locB sc y = true) : Loc sc y := by
  unfold locB at h
  split at h
  · exact .inl (by assumption)
  · exact .inr (by assumption)
  · cases h
/-- x.m(e, ..) at a name's slot -/
def mMeth (N : List Str) (sc : Scope) (i : Nat) (m : Str) : Expr → Option Expr
  | .Call (.Attribute (.Name y _) z ap) [x] [] cp => if decide (N[i]? = some y) && (visB sc y && (okN y && (decide (z = m) && ((ap.endLine == cp.line) && notStar x)))) then some x else none
  | _ => none
/-- x.m() at a name's slot -/
def mMeth0 (N : List Str) (sc : Scope) (i : Nat) (m : Str) : Expr → Bool
  | .Call (.Attribute (.Name y _) z ap) [] [] cp => decide (N[i]? = some y) && (visB sc y && (okN y && (decide (z = m) && (ap.endLine == cp.line))))
  | _ => false
def isLocal (sc : Scope) (y : Str) : Bool := match sc.names.lookup y with
  | some .local => true
  | _ => false
/-- a, b = x, y -/
def mPar (N : List Str) (sc : Scope) (is : List Nat) (ts vs : List Expr) : Bool := match is, ts, vs with
  | [i, j], [.Name x px, .Name y py], [a, b] => decide (N[i]? = some x) && (decide (N[j]? = some y) && (decide (i ≠ j) && (isLocal sc x && (isLocal sc y && (decide (px.line = py.line) && (!([a, b].all (foldedForSure 8)) && (!([a, b].all (constantsAlone 8)) && (!(x == y) && (notStar a && notStar b)))))))))
  | _, _, _ => false
/-- a target that is no plain local name -/
def cellTgt (sc : Scope) : Expr → Bool
  | .Tuple ts _ _ => ts.any fun t => match t with
    | .Name y _ => !isLocal sc y
    | _ => true
  | _ => false
theorem stores_cell {t e : Expr} {env : PySem.Env} (h : cellTgt env.scope t = true) : swappedStores [t] e env = pure none := by
  cases t with
  | Tuple ts k p =>
    obtain ⟨x, hx, hq⟩ := List.any_eq_true.mp (show (ts.any fun t => match t with
      | .Name y _ => !isLocal env.scope y
      | _ => true) = true from h)
    have key : ∀ line : Nat, (fun x : Expr => match x with
      | .Name id pos => if env.kindOf id = some .local ∧ pos.line = line then some id else none
      | _ => none) x = (none : Option Str) := fun line => by
        cases x with
        | Name y py =>
          have hq' : (!isLocal env.scope y) = true := hq
          have : ¬ (env.kindOf y = some .local) := by
            show ¬ (env.scope.names.lookup y = some .local)
            unfold isLocal at hq'
            split at hq'
            · cases hq'
            · rename_i hne
              exact hne
          exact if_neg fun z => this z.1
        | _ => rfl
    cases e with
    | Tuple vs k2 p2 =>
      unfold swappedStores
      simp
      (repeat' split) <;> first
        | rfl
        | exact fun _ _ _ _ h5 => absurd (key _) (h5 x hx)
    | _ => rfl
  | _ => cases h
def asAsg : Stmt → Option (Expr × Expr × Pos)
  | .Assign [t] x p => some (t, x, p)
  | _ => none
theorem asAsg_ok {st : Stmt} {q : Expr × Expr × Pos} (h : asAsg st = some q) : st = .Assign [q.1] q.2.1 q.2.2 := by
  cases st with
  | Assign ts x p =>
    cases ts with
    | nil => cases h
    | cons t r =>
      cases r with
      | nil =>
        cases h
        rfl
      | cons _ _ => cases h
  | _ => cases h
def asNm : Expr → Option (Str × Pos)
  | .Name y p => some (y, p)
  | _ => none
theorem asNm_ok {e : Expr} {q : Str × Pos} (h : asNm e = some q) : e = .Name q.1 q.2 := by
  cases e with
  | Name y p =>
    cases h
    rfl
  | _ => cases h
def asTup : Expr → Option (List Expr × Nat × Pos)
  | .Tuple l k p => some (l, k, p)
  | _ => none
theorem asTup_ok {e : Expr} {q : List Expr × Nat × Pos} (h : asTup e = some q) : e = .Tuple q.1 q.2.1 q.2.2 := by
  cases e with
  | Tuple y p _ =>
    cases h
    rfl
  | _ => cases h
def asSub : Expr → Option (Expr × Expr × Pos)
  | .Subscript o i p => some (o, i, p)
  | _ => none
theorem asSub_ok {e : Expr} {q : Expr × Expr × Pos} (h : asSub e = some q) : e = .Subscript q.1 q.2.1 q.2.2 := by
  cases e with
  | Subscript y p _ =>
    cases h
    rfl
  | _ => cases h
structure Lc where
  c : Expr
  t : Expr
  it : Expr
  ifs : List Expr
  k : Int
  scope : Scope
  pos : Pos
def one? {α : Type} : List α → Option α
  | [x] => some x
  | _ => none
theorem one_ok {α : Type} {l : List α} {x : α} (h : one? l = some x) : l = [x] := by
  match l, h with
  | [y], h =>
    cases h
    rfl
def asLc : Expr → Option Lc
  | .ListComp c gs scope pos => (one? gs).map fun g => ⟨c, g.target, g.iter, g.ifs, g.is_async, scope, pos⟩
  | _ => none
theorem asLc_ok {e : Expr} {q : Lc} (h : asLc e = some q) : e = .ListComp q.c [⟨q.t, q.it, q.ifs, q.k⟩] q.scope q.pos := by
  cases e with
  | ListComp c gs scope pos =>
    have h' : (one? gs).map (fun g => (⟨c, g.target, g.iter, g.ifs, g.is_async, scope, pos⟩ : Lc)) = some q := h
    cases e1 : one? gs with
    | none =>
      rw [e1] at h'
      cases h'
    | some g =>
      rw [e1] at h'
      cases h'
      rw [one_ok e1]
      cases g
      rfl
  | _ => cases h
def asStr : Expr → Option (Str × Nat × Pos)
  | .Constant (.str m) j p => some (m, j, p)
  | _ => none
theorem asStr_ok {e : Expr} {q : Str × Nat × Pos} (h : asStr e = some q) : e = .Constant (.str q.1) q.2.1 q.2.2 := by
  cases e with
  | Constant c j p =>
    cases c with
    | str m =>
      cases h
      rfl
    | _ => cases h
  | _ => cases h
/-- C('m'): the callee, what is handed over -/
def asCall1 : Expr → Option (Expr × Expr × Pos)
  | .Call f args kws cp => if kws.isEmpty then (one? args).map fun a => (f, a, cp) else none
  | _ => none
theorem asCall1_ok {e : Expr} {q : Expr × Expr × Pos} (h : asCall1 e = some q) : e = .Call q.1 [q.2.1] [] q.2.2 := by
  cases e with
  | Call f args kws cp =>
    have h' : (if kws.isEmpty then (one? args).map (fun a => (f, a, cp)) else none) = some q := h
    split at h'
    · rename_i hk
      cases e1 : one? args with
      | none =>
        rw [e1] at h'
        cases h'
      | some g =>
        rw [e1] at h'
        cases h'
        rw [one_ok e1, List.isEmpty_iff.mp hk]
    · cases h'
  | _ => cases h
def asRaise : Stmt → Option (Expr × Pos)
  | .Raise (some e) none p => some (e, p)
  | _ => none
theorem asRaise_ok {st : Stmt} {q : Expr × Pos} (h : asRaise st = some q) : st = .Raise (some q.1) none q.2 := by
  cases st with
  | Raise e c p =>
    cases e with
    | none => cases h
    | some e =>
      cases c with
      | none =>
        cases h
        rfl
      | some _ => cases h
  | _ => cases h
def asFor : Stmt → Option (Expr × Expr × List Stmt × Pos)
  | .For t it l [] p => some (t, it, l, p)
  | _ => none
theorem asFor_ok {st : Stmt} {q : Expr × Expr × List Stmt × Pos} (h : asFor st = some q) : st = .For q.1 q.2.1 q.2.2.1 [] q.2.2.2 := by
  cases st with
  | For t it l e p =>
    cases e with
    | nil =>
      cases h
      rfl
    | cons _ _ => cases h
  | _ => cases h
/-- a[y.pop()][c] -/
def asPop : Expr → Option (Expr × Str × Pos × Pos × Pos × Expr × Pos × Pos)
  | .Subscript (.Subscript a (.Call (.Attribute (.Name y p) z ap) [] [] cp) p1) c p2 => if decide (z = "pop") && (ap.endLine == cp.line) then some (a, y, p, ap, cp, c, p1, p2) else none
  | _ => none
theorem asPop_ok {e : Expr} {q : Expr × Str × Pos × Pos × Pos × Expr × Pos × Pos} (h : asPop e = some q) : e = .Subscript (.Subscript q.1 (.Call (.Attribute (.Name q.2.1 q.2.2.1) "pop" q.2.2.2.1) [] [] q.2.2.2.2.1) q.2.2.2.2.2.2.1) q.2.2.2.2.2.1 q.2.2.2.2.2.2.2 ∧ (q.2.2.2.1.endLine == q.2.2.2.2.1.line) = true := by
  cases e with
  | Subscript x c p2 =>
    match x, h with
    | .Subscript a (.Call (.Attribute (.Name y p) z ap) [] [] cp) p1, h =>
      have h' : (if decide (z = "pop") && (ap.endLine == cp.line) then some (a, y, p, ap, cp, c, p1, p2) else none) = some q := h
      split at h'
      · rename_i hh
        rw [Bool.and_eq_true, decide_eq_true_eq] at hh
        obtain ⟨h1, h2⟩ := hh
        subst h1
        cases h'
        exact ⟨rfl, h2⟩
      · cases h'
  | _ => cases h
def asWhile : Stmt → Option (Expr × List Stmt × Pos)
  | .While x l [] p => some (x, l, p)
  | _ => none
theorem asWhile_ok {st : Stmt} {q : Expr × List Stmt × Pos} (h : asWhile st = some q) : st = .While q.1 q.2.1 [] q.2.2 := by
  cases st with
  | While t l e p =>
    cases e with
    | nil =>
      cases h
      rfl
    | cons _ _ => cases h
  | _ => cases h
/-- o's thing, if there is one that fits -/
def onS {α : Type} (o : Option α) (f : α → Bool) : Bool := match o with
  | some a => f a
  | none => false
theorem onS_ok {α : Type} {o : Option α} {f : α → Bool} (h : onS o f = true) : ∃ a, o = some a ∧ f a = true := by
  cases o with
  | none => cases h
  | some a => exact ⟨a, rfl, h⟩
/-- y = x -/
def mCT (N : List Str) (sc : Scope) (elt : E) (tg : Tg) (src : Src) (own : List Nat) : Expr → Bool
  | .Call (.Name y _) [.ListComp e [⟨t, it, ifs, k⟩] scope _] [] _ => decide (y = "tuple") && (glB sc y && (decide (k = 0) && (ifs.isEmpty && (blkC N sc scope (own.map fun i => (N.getD i "", i)) && (notSet it && (mTg N (relS scope sc) scope true tg t && (mSrc N sc src t it && mE N (relS scope sc) elt e)))))))
  | _ => false
def mNm (N : List Str) (sc : Scope) (i : Nat) (st : Stmt) (f : Expr → Bool) : Bool := onS (asAsg st) fun q => onS (asNm q.1) fun r => decide (N[i]? = some r.1) && (locB sc r.1 && (swB sc r.1 r.2 q.2.1 && f q.2.1))
def asEx : Stmt → Option (Expr × Pos)
  | .Expr x p => some (x, p)
  | _ => none
theorem asEx_ok {st : Stmt} {q : Expr × Pos} (h : asEx st = some q) : st = .Expr q.1 q.2 := by
  cases st with
  | Expr x p =>
    cases h
    rfl
  | _ => cases h
structure Tr where
  body : List Stmt
  c : Str
  np : Pos
  n : Str
  b₀ : Stmt
  p1 : Pos
  p2 : Pos
def asHd : ExceptHandler → Option (Str × Pos × Str × Stmt × Pos)
  | .ExceptHandler (some (.Name x np)) (some n) [b₀] p => some (x, np, n, b₀, p)
  | _ => none
theorem asHd_ok {h : ExceptHandler} {q : Str × Pos × Str × Stmt × Pos} (e : asHd h = some q) : h = .ExceptHandler (some (.Name q.1 q.2.1)) (some q.2.2.1) [q.2.2.2.1] q.2.2.2.2 := by
  obtain ⟨t, n, b, p⟩ := h
  match t, n, b, e with
  | some (.Name x np), some n, [b₀], e =>
    cases e
    rfl
def asTry : Stmt → Option Tr
  | .Try body hs [] [] p => (one? hs).bind fun h => (asHd h).map fun q => ⟨body, q.1, q.2.1, q.2.2.1, q.2.2.2.1, q.2.2.2.2, p⟩
  | _ => none
theorem asTry_ok {st : Stmt} {q : Tr} (e : asTry st = some q) : st = .Try q.body [.ExceptHandler (some (.Name q.c q.np)) (some q.n) [q.b₀] q.p1] [] [] q.p2 := by
  cases st with
  | Try body hs o f p =>
    match o, f, e with
    | [], [], e =>
      have e' : ((one? hs).bind fun h => (asHd h).map fun q => (⟨body, q.1, q.2.1, q.2.2.1, q.2.2.2.1, q.2.2.2.2, p⟩ : Tr)) = some q := e
      cases e1 : one? hs with
      | none =>
        rw [e1] at e'
        cases e'
      | some h =>
        rw [e1, Option.bind_some] at e'
        cases e2 : asHd h with
        | none =>
          rw [e2] at e'
          cases e'
        | some r =>
          rw [e2] at e'
          cases e'
          rw [one_ok e1, asHd_ok e2]
  | _ => cases e
/-- self.f = .. -/
def mFld (N : List Str) (sc : Scope) (i : Nat) (f : Str) (x : Expr) : Bool := onS (asAttr x) fun r => decide (r.2.2.1 = f) && (decide (N[i]? = some r.1) && (visB sc r.1 && okN r.1))
theorem asAttr_ok {x : Expr} {r : Str × Pos × Str × Pos} (h : asAttr x = some r) : x = .Attribute (.Name r.1 r.2.1) r.2.2.1 r.2.2.2 := by
  unfold asAttr at h
  split at h
  · cases h
    rfl
  · cases h
def asAnd : Expr → Option (Expr × Expr × Pos)
  | .BoolOp .And [y, z] p => some (y, z, p)
  | _ => none
theorem asAnd_ok {x : Expr} {r : Expr × Expr × Pos} (h : asAnd x = some r) : x = .BoolOp .And [r.1, r.2.1] r.2.2 := by
  unfold asAnd at h
  split at h
  · cases h
    rfl
  · cases h
def asIfE : Expr → Option (Expr × Expr × Expr × Pos)
  | .IfExp t y z p => some (t, y, z, p)
  | _ => none
theorem asIfE_ok {x : Expr} {r : Expr × Expr × Expr × Pos} (h : asIfE x = some r) : x = .IfExp r.1 r.2.1 r.2.2.1 r.2.2.2 := by
  unfold asIfE at h
  split at h
  · cases h
    rfl
  · cases h
/-- the test of a call that changes an object -/
def mTM (N : List Str) (sc : Scope) (q : Eo) (c : MC) (x : Expr) : Bool := match q with
  | .no => mMC N sc c x
  | .yes e => onS (asAnd x) fun r => tst e && (mE N sc e r.1 && mMC N sc c r.2.1)
def isCall : Expr → Bool
  | .Call _ _ _ _ => true
  | _ => false
def isFrz : S → Bool
  | .frz _ => true
  | _ => false
def mOne (N : List Str) (sc : Scope) (c : MC) : List Stmt → Bool
  | [st] => onS (asEx st) fun r => !isComp r.1 && mMC N sc c r.1
  | _ => false
mutual
def mS (N : List Str) (sc : Scope) : S → Stmt → Bool
  | .asg _ i e, st => mNm N sc i st fun x => mE N sc e x
  | .own _ i e, st => mNm N sc i st fun x => mE N sc e x
  | .own2 i e, st => mNm N sc i st fun x => mE N sc e x
  | .unp _ is e, st => onS (asAsg st) fun q => onS (asTup q.1) fun r => mNames N sc sc true is r.1 && ((!isTup q.2.1 || (constTup q.2.1 || cellTgt sc q.1)) && mE N sc e q.2.1)
  | .par is es, st => onS (asAsg st) fun q => onS (asTup q.1) fun r => onS (asTup q.2.1) fun t => mPar N sc is r.1 t.1 && mEs N sc es t.1
  | .app _ i e, st => onS (asEx st) fun q => onS (mMeth N sc i "append" q.1) fun x => mE N sc e x
  | .appOwn i j, st => onS (asEx st) fun q => onS (mMeth N sc i "append" q.1) fun x => mE N sc (.var j) x
  | .ext _ i e, st => onS (asEx st) fun q => onS (mMeth N sc i "extend" q.1) fun x => mE N sc e x
  | .set _ i ie e, st => onS (asAsg st) fun q => onS (asSub q.1) fun r => mE N sc (.var i) r.1 && (plainIx r.2.1 && (mE N sc ie r.2.1 && mE N sc e q.2.1))
  | .odict i k, st => mNm N sc i st fun x => mE N sc (.dict k) x
  | .setd _ i ke e, st => onS (asAsg st) fun q => onS (asSub q.1) fun r => mE N sc (.var i) r.1 && (plainIx r.2.1 && (mE N sc ke r.2.1 && mE N sc e q.2.1))
  | .set2 i ie je e, st => onS (asAsg st) fun q => onS (asSub q.1) fun r => mE N sc (.idx (.var i) ie) r.1 && (plainIx r.2.1 && (mE N sc je r.2.1 && mE N sc e q.2.1))
  | .compT d elt tg src own, st => (match d with
    | some i => mNm N sc i st fun x => mCT N sc elt tg src own x
    | none => (match st with
      | .Return (some x) _ => mCT N sc elt tg src own x
      | _ => false))
  | .forO tg i c _, st => onS (asFor st) fun q => notSet q.2.1 && (mTg N sc sc true tg q.1 && (mE N sc (.var i) q.2.1 && mOne N sc c q.2.2.1))
  | .appM i e, st => onS (asEx st) fun q => onS (mMeth N sc i "append" q.1) fun x => mE N sc e x
  | .pop i j .no, st => mNm N sc i st fun x => mMeth0 N sc j "pop" x
  | .pop i j (.yes e), st => mNm N sc i st fun x => onS (mMeth N sc j "pop" x) fun y => mE N sc e y
  | .appPop i j e, st => onS (asEx st) fun q => onS (mMeth N sc i "append" q.1) fun x => onS (mMeth N sc j "pop" x) fun y => mE N sc e y
  | .compPop i j e tg src, st => mNm N sc i st fun x => onS (asLc x) fun q => (decide (q.k = 0) && q.ifs.isEmpty) && (blkC N sc q.scope [(N.getD tg "", tg)] && (notSet q.it && (mTg N (relS q.scope sc) q.scope true (.name tg) q.t && (mSrc N sc src q.t q.it && onS (mMeth N (relS q.scope sc) j "pop" q.c) fun x => mE N (relS q.scope sc) e x))))
  | .ret e, st => (match st with
    | .Return (some x) _ => mE N sc e x
    | .Return none _ => (match e with
      | .non => true
      | _ => false)
    | _ => false)
  | .raise c, st => onS (asRaise st) fun q => onS (asCall1 q.1) fun r => onS (asNm r.1) fun y => onS (asStr r.2.1) fun _ => decide (y.1 = c) && (glB sc y.1 && okN y.1)
  | .expr e, st => onS (asEx st) fun q => !isComp q.1 && mE N sc e q.1
  | .dead, _ => true
  | .revN i, st => onS (asEx st) fun q => mMeth0 N sc i "reverse" q.1
  | .deepC i x F es, st => mNm N sc i st fun y => mE N sc (.call x F es) y
  | .copyD j x F i, st => mNm N sc j st fun y => mE N sc (.call x F (.cons (.var i) .nil)) y
  | .spoilD x _ i, st => onS (asEx st) fun q => isCall q.1 && mE N sc (.call x (fun _ => .stuck) (.cons (.var i) .nil)) q.1
  | .spoilE x e, st => onS (asEx st) fun q => isCall q.1 && mE N sc (.call x (fun _ => .stuck) (.cons e .nil)) q.1
  | .newK2 d1 d2 _ es1 es2, st => onS (asAsg st) fun q => onS (asTup q.1) fun r => onS (asTup q.2.1) fun t => mPar N sc [d1, d2] r.1 t.1 && (match t.1 with
    | [a, b] => mNew N sc es1 a && mNew N sc es2 b
    | _ => false)
  | .pass, st => (match st with
    | .Pass _ => true
    | _ => false)
  | .brk, st => (match st with
    | .Break _ => true
    | _ => false)
  | .ite c a b, st => (match st with
    | .If x l r _ => tst c && (mE N sc c x && (mSs N sc a l && mSs N sc b r))
    | _ => false)
  | .for tg src body _, st => onS (asFor st) fun q => notSet q.2.1 && (mTg N sc sc true tg q.1 && (mSrc N sc src q.1 q.2.1 && mSs N sc body q.2.2.1))
  | .while c body _, st => onS (asWhile st) fun q => tst c && (mE N sc c q.1 && mSs N sc body q.2.1)
  | .forR tg a body _, st => onS (asFor st) fun q => notSet q.2.1 && (mTg N sc sc true tg q.1 && (mSrc N sc (.range1 a) q.1 q.2.1 && mSs N sc body q.2.2.1))
  | .forM tg e body _, st => onS (asFor st) fun q => notSet q.2.1 && (mTg N sc sc true tg q.1 && (mE N sc e q.2.1 && mSs N sc body q.2.2.1))
  | .forPop tg a j c body _, st => onS (asFor st) fun q => onS (asPop q.2.1) fun r => decide (N[j]? = some r.2.1) && (visB sc r.2.1 && (okN r.2.1 && (plainIx r.2.2.2.2.2.1 && (mE N sc a r.1 && (mE N sc (.int c) r.2.2.2.2.2.1 && (mTg N sc sc true tg q.1 && mSs N sc body q.2.2.1))))))
  | .try1 body c e j, st => onS (asTry st) fun q => decide (q.c = c) && (decide (c ∈ XN) && (glB sc q.c && (okN q.c && (decide (N[e]? = some q.n) && (isLocal sc q.n && (mNm N sc j q.b₀ (fun x => mE N sc (.var e) x) && mSs N sc body q.body))))))
  | .retM e, st => (match st with
    | .Return (some x) _ => mE N sc e x
    | .Return none _ => (match e with
      | .non => true
      | _ => false)
    | _ => false)
  | .setA i f e, st => onS (asAsg st) fun q => mFld N sc i f q.1 && mE N sc e q.2.1
  | .callM d c, st => (match d with
    | none => onS (asEx st) fun q => !isComp q.1 && mMC N sc c q.1
    | some d => mNm N sc d st fun x => isCall x && mMC N sc c x)
  | .iteM q c a b, st => (match st with
    | .If x l r _ => mTM N sc q c x && (mSs N sc a l && mSs N sc b r)
    | _ => false)
  | .callM2 d q c1 c2, st => mNm N sc d st fun x => onS (asIfE x) fun r => tst q && (mE N sc q r.1 && (mMC N sc c1 r.2.1 && mMC N sc c2 r.2.2.1))
  | .newK d _ es, st => mNm N sc d st fun x => isCall x && mNew N sc es x
  | .setdMax i ke tg src m j _ es, st => onS (asAsg st) fun q => onS (asSub q.1) fun r => onS (asMax q.2.1) fun t => onS (asLc t.1) fun l => onS (asAdd l.c) fun p => mE N sc (.var i) r.1 && (plainIx r.2.1 && (mE N sc ke r.2.1 && (glB sc "max" && (mE N sc (.int 0) t.2.1 &&
      ((decide (l.k = 0) && l.ifs.isEmpty) && (blkC N sc l.scope [(N.getD tg "", tg)] && (notSet l.it && (mTg N (relS l.scope sc) l.scope true (.name tg) l.t && (mSrc N sc (.seq src) l.t l.it && (mE N (relS l.scope sc) (.int 1) p.1 && mFn N (relS l.scope sc) m (insX j (.var i) es) p.2.1))))))))))
  | .retD m j _ es, st => (match st with
    | .Return (some x) _ => mFn N sc m (insX j (.dict true) es) x
    | _ => false)
  | _, _ => false
def mSs (N : List Str) (sc : Scope) : Ss → List Stmt → Bool
  | .nil, l => (match l with
    | [] => true
    | _ => false)
  | .cons s ss, l => if isFrz s then mSs N sc ss l else (match l with
    | st :: r => mS N sc s st && mSs N sc ss r
    | _ => false)
end
mutual
def US (C : CP) (G : GP) (E : Str → Prop) (M : MP) (D : Str → Nat → Prop) : S → Prop
  | .asg _ _ e => UE C G e
  | .own _ _ e => UE C G e
  | .own2 _ e => UE C G e
  | .unp _ _ e => UE C G e
  | .par _ es => UEs C G es
  | .app _ _ e => UE C G e
  | .ext _ _ e => UE C G e
  | .set _ _ ie e => UE C G ie ∧ UE C G e
  | .setd _ _ ke e => UE C G ke ∧ UE C G e
  | .set2 _ ie je e => UE C G ie ∧ UE C G je ∧ UE C G e
  | .forO _ _ c _ => M c.k c.m c.j c.F ∧ UEs C G c.es
  | .compT _ elt _ src _ => USrc C G src ∧ UE C G elt
  | .appM _ e => UE C G e
  | .pop _ _ e => UO C G e
  | .appPop _ _ e => UE C G e
  | .compPop _ _ e _ src => UE C G e ∧ USrc C G src
  | .ret e => UE C G e
  | .raise c => E c
  | .expr e => UE C G e
  | .ite c a b => UE C G c ∧ USs C G E M D a ∧ USs C G E M D b
  | .for _ src body _ => USrc C G src ∧ USs C G E M D body
  | .while c body _ => UE C G c ∧ USs C G E M D body
  | .forPop _ a _ _ body _ => UE C G a ∧ USs C G E M D body
  | .forM _ e body _ => UE C G e ∧ USs C G E M D body
  | .forR _ a body _ => UE C G a ∧ USs C G E M D body
  | .try1 body c _ _ => G c 0 ∧ USs C G E M D body
  | .retM e => UE C G e
  | .setA _ f e => G (dot f) 0 ∧ UE C G e
  | .callM _ c => M c.k c.m c.j c.F ∧ UEs C G c.es
  | .iteM q c a b => UO C G q ∧ M c.k c.m c.j c.F ∧ UEs C G c.es ∧ USs C G E M D a ∧ USs C G E M D b
  | .callM2 _ q c1 c2 => UE C G q ∧ (M c1.k c1.m c1.j c1.F ∧ UEs C G c1.es) ∧ M c2.k c2.m c2.j c2.F ∧ UEs C G c2.es
  | .newK _ F es => M .meth "__init__" 0 F ∧ UEs C G es
  | .deepC _ x F es => C x F ∧ UEs C G es
  | .copyD _ x F _ => C x F
  | .spoilD x d _ => D x d
  | .spoilE x e => D x 6 ∧ UE C G e
  | .newK2 _ _ F es1 es2 => M .meth "__init__" 0 F ∧ UEs C G es1 ∧ UEs C G es2
  | .setdMax _ ke _ src m j F es => UE C G ke ∧ UE C G src ∧ M .fn m j F ∧ UEs C G es
  | .retD m j F es => M .fn m j F ∧ UEs C G es
  | _ => True
def USs (C : CP) (G : GP) (E : Str → Prop) (M : MP) (D : Str → Nat → Prop) : Ss → Prop
  | .nil => True
  | .cons s ss => US C G E M D s ∧ USs C G E M D ss
end
/-- what spoils, by its name -/
def HasD (P : Program) (w : World) (K : PySem.W.Frag) (mg : Str → Option Value) (base : Heap) (A : Around) : Str → Nat → Prop := fun x d =>
  ∃ (k : Nat) (f : Addr) (fd : FuncData) (ps : List Str), FnOk P w K mg base (L2.CX P w) k f fd ps (PSpS K d) ∧ Room k A ∧ Where K mg x f ∧ Binds K fd ps []
abbrev DD (X : Cx) : Str → Nat → Prop := HasD X.prog X.w X.K X.mg X.base X.A
def HasX (K : PySem.W.Frag) (mg : Str → Option Value) (c : Str) : Prop := ∃ C, mg c = some (.ref C) ∧ PySem.W.excIn K C [.type "ValueError", .type "Exception", .type "BaseException", .type "object"] "ValueError.__new__" = true ∧
  PySem.W.keepIn K (.ref C) = true ∧ PySem.W.subIn K (.ref C) (.type "BaseException") = some true ∧ PySem.W.typeIn K (.ref C) = some (.type "type")
structure Gs (X : Cx) : Prop where
  gd : Gd X
  hp : PassesOwn (model X.prog X.w) X.A X.env X.xe
  hfn : ∀ y, X.fn y = true
  ki : X.env.scope.kind = .function
  stk : X.stack = X.env :: X.outer
  frm : X.env.frame = some X.env.locals
  exn : X.ex = []
end Lh
set_option Elab.async false
set_option linter.all false
set_option maxRecDepth 100000
set_option maxHeartbeats 8000000
namespace Lh
open PySem PySem.Spec PyProof.Rows L2
section
variable {X : Cx} {W : WX}
theorem ps_name (g : Gs X) (tk : Takes X W) {i : Nat} {y : Str} {p spos : Pos} {e : E} {x : Expr} (h1 : X.N[i]? = some y) (h2 : locB X.env.scope y = true) (h3 : swB X.env.scope y p x = true) (u : UE (CC X) (GG X) e) (h4 : mE X.N X.env.scope e x = true) :
    PS X (.Assign [.Name y p] x spos) (tAsg (rd X.K X.mg W e).1 (gName i)) := by
  have hm := mat e X W x g.gd tk u h4
  by_cases hc : isComp x = true
  · cases x with
    | ListComp c gs scope pos =>
      have h3' : (match X.env.scope.names.lookup y with
        | some .local => (p.line == pos.line) && !(scope.names.any fun (n, k) => n == y && (k == .local || k == .cell))
        | some .cell => true
        | _ => false) = true := h3
      split at h3'
      · rename_i hl
        obtain ⟨h5, h6⟩ := ba h3'
        rw [Bool.not_eq_true'] at h6
        cases e with
        | comp elt tg src cond own =>
          match gs, h4 with
          | [⟨t, it, ifs, k⟩], h =>
            obtain ⟨h1', h⟩ := bd h
            obtain ⟨h2', h⟩ := ba h
            obtain ⟨h3', h⟩ := ba h
            obtain ⟨h4', h⟩ := ba h
            obtain ⟨h5', h⟩ := ba h
            obtain ⟨h6', h7⟩ := ba h
            subst h1'
            have g' := g.gd
            have gb : ∀ (s : Shared) (H : Hp) (C : Addr) (cl : List (Str × Addr)) (fp : List Addr), Gd (X.blk s H scope (compEnvC scope cl C X.env) fp) := fun s H C cl fp => ⟨g'.calm, g'.nd, g'.hu, g'.bl⟩
            have pp := ps_setLc (spos := spos) (te := (rd X.K X.mg W0 elt).1) (tt := rdC X.K X.mg cond) (g := rdTg X.K tg) (own := own.map fun i => (X.N.getD i "", i)) g'.calm g'.nd h1 hl (sw_true g.ki hl h5 h6) (matsrc src X W t it g' tk u.1 h5') (blkOk_by h2')
              (fun s H C cl fp => mTg_ok (X := X.blk s H scope (compEnvC scope cl C X.env) fp) (bs := scope) (cell := true) g'.calm g'.nd (fun _ y hy => by
                show (scope.names.lookup y == some NameKind.cell) = true
                rw [hy]
                rfl) h4')
              (fun s H C cl fp => matc cond (X.blk s H scope (compEnvC scope cl C X.env) fp) ifs (gb s H C cl fp) u.2.1 h6')
              (fun s H C cl fp => (mat elt (X.blk s H scope (compEnvC scope cl C X.env) fp) W0 c (gb s H C cl fp) takes0 u.2.2 h7).v) (fold_no h3')
            have eo : (own.map fun i => (X.N.getD i "", i)).map (·.2) = own := by
              rw [List.map_map]
              exact List.map_id' _
            rw [eo] at pp
            exact pp
        | _ => exact nomatch h4
      · rename_i hl
        exact ps_set g.gd.nd h1 (locB_ok h2) hm.v (sw_cell hl) (.inl (g.hfn y))
      · cases h3'
    | SetComp _ _ _ _ => cases h3
    | DictComp _ _ _ _ _ => cases h3
    | _ => cases hc
  · exact ps_set g.gd.nd h1 (locB_ok h2) hm.v (sw_no (Bool.eq_false_iff.mpr hc)) (.inl (g.hfn y))
theorem mMeth_ok {N : List Str} {sc : Scope} {i : Nat} {m : Str} {c x : Expr} (h : mMeth N sc i m c = some x) : ∃ y p ap cp, c = .Call (.Attribute (.Name y p) m ap) [x] [] cp ∧ N[i]? = some y ∧ visB sc y = true ∧ okN y = true ∧ (ap.endLine == cp.line) = true ∧ notStar x = true := by
  cases c with
  | Call f args kws cp =>
    match f, args, kws, h with
    | .Attribute (.Name y p) z ap, [x'], [], h =>
      have h' : (if decide (N[i]? = some y) && (visB sc y && (okN y && (decide (z = m) && ((ap.endLine == cp.line) && notStar x')))) then some x' else none) = some x := h
      split at h'
      · rename_i hh
        cases h'
        obtain ⟨h1, hh⟩ := bd hh
        obtain ⟨h2, hh⟩ := ba hh
        obtain ⟨h3, hh⟩ := ba hh
        obtain ⟨h4, hh⟩ := bd hh
        obtain ⟨h5, h6⟩ := ba hh
        subst h4
        exact ⟨y, p, ap, cp, rfl, h1, h2, h3, h5, h6⟩
      · cases h'
  | _ => exact nomatch h
theorem pe_append {i : Nat} {c x : Expr} {t : TE} (h : mMeth X.N X.env.scope i "append" c = some x) (hx : PE X x t) : PE X c (tBM X.K "list" rAppend (tVar i) (tCons t tNil)) := by
  obtain ⟨y, p, ap, cp, rfl, h1, h2, h3, h4, h5⟩ := mMeth_ok h
  exact pe_bm PySem.F.plainAttrs_list PySem.F.slot_list_append PySem.F.type_list_append mt_append (pe_var h1 (visB_ok h2) (okN1 h3) (okN2 h3)) (pa_cons hx pa_nil (star_cons h5)) rfl (by rw [star_cons h5]; rfl) h4 (star_cons h5) rfl
theorem pe_extend {i : Nat} {c x : Expr} {t : TE} (h : mMeth X.N X.env.scope i "extend" c = some x) (hx : PE X x t) : PE X c (tBM X.K "list" rExtend (tVar i) (tCons t tNil)) := by
  obtain ⟨y, p, ap, cp, rfl, h1, h2, h3, h4, h5⟩ := mMeth_ok h
  exact pe_bm PySem.F.plainAttrs_list PySem.F.slot_list_extend PySem.F.type_list_extend mt_extend (pe_var h1 (visB_ok h2) (okN1 h3) (okN2 h3)) (pa_cons hx pa_nil (star_cons h5)) rfl (by rw [star_cons h5]; rfl) h4 (star_cons h5) rfl
theorem pe_popAt {i : Nat} {c x : Expr} {t : TE} (h : mMeth X.N X.env.scope i "pop" c = some x) (hx : PE X x t) : PE X c (tBM X.K "list" rPopAt (tVar i) (tCons t tNil)) := by
  obtain ⟨y, p, ap, cp, rfl, h1, h2, h3, h4, h5⟩ := mMeth_ok h
  exact pe_bm PySem.F.plainAttrs_list PySem.F.slot_list_pop PySem.F.type_list_pop mt_popAt (pe_var h1 (visB_ok h2) (okN1 h3) (okN2 h3)) (pa_cons hx pa_nil (star_cons h5)) rfl (by rw [star_cons h5]; rfl) h4 (star_cons h5) rfl
theorem mMeth0_ok {N : List Str} {sc : Scope} {i : Nat} {m : Str} {c : Expr} (h : mMeth0 N sc i m c = true) : ∃ y p ap cp, c = .Call (.Attribute (.Name y p) m ap) [] [] cp ∧ N[i]? = some y ∧ visB sc y = true ∧ okN y = true ∧ (ap.endLine == cp.line) = true := by
  cases c with
  | Call f args kws cp =>
    match f, args, kws, h with
    | .Attribute (.Name y p) z ap, [], [], h =>
      obtain ⟨h1, h⟩ := bd h
      obtain ⟨h2, h⟩ := ba h
      obtain ⟨h3, h⟩ := ba h
      obtain ⟨h4, h5⟩ := bd h
      have h4 : z = m := h4
      subst h4
      exact ⟨y, p, ap, cp, rfl, h1, h2, h3, h5⟩
  | _ => cases h
theorem pe_pop0 {i : Nat} {c : Expr} (h : mMeth0 X.N X.env.scope i "pop" c = true) : PE X c (tBM0 X.K "list" rPop (tVar i)) := by
  obtain ⟨y, p, ap, cp, rfl, h1, h2, h3, h4⟩ := mMeth0_ok h
  exact pe_bm0 PySem.F.plainAttrs_list PySem.F.slot_list_pop PySem.F.type_list_pop mt_pop (pe_var h1 (visB_ok h2) (okN1 h3) (okN2 h3)) rfl h4
theorem meth0_comp {N : List Str} {sc : Scope} {i : Nat} {m : Str} {c : Expr} (h : mMeth0 N sc i m c = true) : isComp c = false := by
  obtain ⟨y, p, ap, cp, rfl, _⟩ := mMeth0_ok h
  rfl
theorem meth_comp {N : List Str} {sc : Scope} {i : Nat} {m : Str} {c x : Expr} (h : mMeth N sc i m c = some x) : isComp c = false := by
  obtain ⟨y, p, ap, cp, rfl, _⟩ := mMeth_ok h
  rfl
theorem par_sw {env : PySem.Env} {x y : Str} {px py pt p2 : Pos} {kt k2 : Nat} {a b : Expr} (hk : env.scope.kind = .function) (hx : env.scope.names.lookup x = some .local) (hy : env.scope.names.lookup y = some .local) (hl : px.line = py.line)
    (hf : ([a, b].all (foldedForSure 8)) = false) (hc : ([a, b].all (constantsAlone 8)) = false) (hne : (x == y) = false) (ha : notStar a = true) (hb : notStar b = true) :
    swappedStores [.Tuple [.Name x px, .Name y py] kt pt] (.Tuple [a, b] k2 p2) env = pure (some [x, y]) := by
  have kx : env.kindOf x = some .local := hx
  have ky : env.kindOf y = some .local := hy
  have hbk : env.blockKind = .function := by
    unfold Env.blockKind
    rw [hk]
    rfl
  have eqv : (x == x) = true := by simp
  have hed : ([x, y] : List Str).eraseDups = [x, y] := by
    have hyx : (y == x) = false := by
      rw [Bool.eq_false_iff] at hne ⊢
      intro z
      exact hne (by rw [beq_iff_eq] at z ⊢; exact z.symm)
    simp [List.eraseDups, List.eraseDupsBy, List.eraseDupsBy.loop, hyx, hne]
  unfold swappedStores
  simp only [List.length_cons, List.length_nil, hbk, List.any_cons, List.any_nil, List.head?_cons, Option.map_some, Expr.pos, Option.getD_some, List.filterMap_cons, List.filterMap_nil, kx, ky, hl, hf, hc]
  simp [hed, hl]
  intro h
  exfalso
  rcases h with h | h
  · cases a <;> first | (cases ha; done) | (cases h; done)
  · cases b <;> first | (cases hb; done) | (cases h; done)
end
end Lh
set_option Elab.async false
set_option linter.all false
set_option maxRecDepth 100000
set_option maxHeartbeats 8000000
namespace Lh
open PySem PySem.Spec PyProof.Rows L2
section
variable {X : Cx} {W : WX}
theorem pg_any {es : List Expr} {k n : Nat} {t : TGs} {pos : Pos} (hc : X.calm = true) (h : PGs X es t) (hn : (assignEach es X.env).length = n) (hst : (assignEach es X.env).findIdx? (·.1) = none) : PG X (.Tuple es k pos) (gAny X.K n t) :=
  ⟨fun pins s σ H v u Q I r hw => hw.elim (fun q => (pg_tup hc h hn hst).run pins s σ H v u Q I r q) fun q => (pg_lst hc h hn hst).run pins s σ H v u Q I r q⟩
theorem assign_sub {o i : Expr} {pos : Pos} {env : PySem.Env} (h : plainIx i = true) (v : Value) : assign (.Subscript o i pos) env v = (do
      let ov ← holding [v] (eval o env)
      let iv ← holding [v, ov] (eval i env)
      standAt pos
      holding [v, ov, iv] (setItem ov iv v)
      release [v, ov, iv] []) := by
  cases i <;> first | rfl | cases h
end
theorem ps_parE {X : Cx} {W : WX} {is : List Nat} {es : Es} {l xs : List Expr} {k1 k2 : Nat} {p1 p2 pos : Pos} (g : Gs X) (tk : Takes X W) (u : UEs (CC X) (GG X) es) (h1 : mPar X.N X.env.scope is l xs = true) (h2 : mEs X.N X.env.scope es xs = true) :
    PS X (.Assign [.Tuple l k1 p1] (.Tuple xs k2 p2) pos) (rdS X.K X.mg W (.par is es)) := by
  unfold mPar at h1
  split at h1
  · obtain ⟨q1, h1⟩ := bd h1
    obtain ⟨q2, h1⟩ := bd h1
    obtain ⟨q3, h1⟩ := bd h1
    obtain ⟨q4, h1⟩ := ba h1
    obtain ⟨q5, h1⟩ := ba h1
    obtain ⟨q6, h1⟩ := bd h1
    obtain ⟨q7, h1⟩ := ba h1
    obtain ⟨q8, h1⟩ := ba h1
    obtain ⟨q9, h1⟩ := ba h1
    obtain ⟨q10, q11⟩ := ba h1
    rw [Bool.not_eq_true'] at q7 q8 q9
    have loc : ∀ z, isLocal X.env.scope z = true → X.env.scope.names.lookup z = some .local := fun z q => by
      unfold isLocal at q
      split at q
      · assumption
      · cases q
    exact ps_par g.gd.calm g.gd.nd q1 q2 q3 (loc _ q4) (loc _ q5) (mats es X W _ g.gd tk u h2) (par_sw g.ki (loc _ q4) (loc _ q5) q6 q7 q8 q9 q10 q11) (sw_sole fun _ _ z => nomatch z)
  · cases h1
section
variable {X : Cx} {W : WX}
theorem pt_MC {c : MC} {x : Expr} (g : Gd X) (tk : Takes X W) (u1 : MM X c.k c.m c.j c.F) (u2 : UEs (CC X) (GG X) c.es) (h : mMC X.N X.env.scope c x = true) : PT X x (tB (rdMC X.K X.mg W c)) := by
  have p := pe_MC g tk u1 u2 h
  obtain ⟨ck, ci, cm, cj, cF, ces⟩ := c
  cases x with
  | Call fn args kws pos => exact pt_val p fun _ => rfl
  | _ => cases ck <;> exact nomatch h
theorem call_comp {x : Expr} (h : isCall x = true) : isComp x = false := by
  cases x <;> first | rfl | cases h
theorem pt_TM {q : Eo} {c : MC} {x : Expr} (g : Gd X) (tk : Takes X W) (u0 : UO (CC X) (GG X) q) (u1 : MM X c.k c.m c.j c.F) (u2 : UEs (CC X) (GG X) c.es) (h : mTM X.N X.env.scope q c x = true) :
    PT X x (rdTM X.K X.mg W q c) := by
  cases q with
  | no => exact pt_MC g tk u1 u2 h
  | yes e =>
    obtain ⟨r, e1, h⟩ := onS_ok h
    obtain ⟨h1, h⟩ := ba h
    obtain ⟨h2, h3⟩ := ba h
    rw [asAnd_ok e1]
    exact (pw_and ((mat e X W r.1 g tk u0 h2).t h1) (pw_and1 (pt_MC g tk u1 u2 h3))).pt
theorem ps_nmE {i : Nat} {y : Str} {p spos : Pos} {x : Expr} {t : TE} (g : Gs X) (h1 : X.N[i]? = some y) (h2 : locB X.env.scope y = true) (hx : isComp x = false) (hp : PE X x t) : PS X (.Assign [.Name y p] x spos) (tAsg t (gName i)) :=
  ps_set g.gd.nd h1 (locB_ok h2) hp (sw_no hx) (.inl (g.hfn y))
end
theorem callE_comp {N : List Str} {sc : Scope} {y : Str} {F : List Val → Res Val} {es : Es} {c : Expr} (h : mE N sc (.call y F es) c = true) : isComp c = false := by
  cases c <;> first | rfl | exact nomatch h
/-- a call by a promise of its own -/
theorem pe_callG {X : Cx} {W : WX} {k : Nat} {fa : Addr} {fd : FuncData} {ps : List Str} {sp : Sp} {y : Str} {F : List Val → Res Val} {es : Es} {c : Expr} (FO : FnOk X.prog X.w X.K X.mg X.base (L2.CX X.prog X.w) k fa fd ps sp) (hr : Room k X.A) (wh : Where X.K X.mg y fa)
    (hb : Binds X.K fd ps []) (g : Gd X) (tk : Takes X W) (u : UEs (CC X) (GG X) es) (h : mE X.N X.env.scope (.call y F es) c = true) : PE X c (tCallS sp (WE W) (rdEs X.K X.mg W es)) := by
  cases c with
  | Call fn args kws pos =>
    match fn, args, kws, h with
    | .Name z p, args, [], h =>
      obtain ⟨h1, h⟩ := bd h
      obtain ⟨h0, h⟩ := bd h
      obtain ⟨h2, h⟩ := ba h
      obtain ⟨h3, h4⟩ := ba h
      subst h1
      obtain ⟨hm, hk⟩ := wh.1 h0
      cases args with
      | nil =>
        have e0 : es = .nil := by
          cases es with
          | nil => rfl
          | cons _ _ => exact nomatch h4
        subst e0
        exact pe_callS0 FO hr (glB_ok h2) hm hk hb (fun σ => passAt tk σ) (okN1 h3)
      | cons a args =>
        have st : (a :: args).all notStar = true := stars es X.N X.env.scope _ h4
        rw [List.all_cons, Bool.and_eq_true] at st
        exact pe_callS FO hr (glB_ok h2) hm hk hb (fun σ => passAt tk σ) (mats es X W (a :: args) g tk u h4) (okN1 h3) (star_cons st.1) (star_any st.2)
  | _ => exact nomatch h
theorem pe_reverse {X : Cx} {i : Nat} {c : Expr} (h : mMeth0 X.N X.env.scope i "reverse" c = true) : PE X c (tBM0 X.K "list" rReverse (tVar i)) := by
  obtain ⟨y, p, ap, cp, rfl, h1, h2, h3, h4⟩ := mMeth0_ok h
  exact pe_bm0 PySem.F.plainAttrs_list PySem.F.slot_list_reverse PySem.F.type_list_reverse mt_reverse (pe_var h1 (visB_ok h2) (okN1 h3) (okN2 h3)) rfl h4
theorem ps_par2 {X : Cx} {W : WX} {d1 d2 : Nat} {ta : TA} {l : List Expr} {a b : Expr} {k1 k2 : Nat} {p1 p2 pos : Pos} (g : Gs X) (h1 : mPar X.N X.env.scope [d1, d2] l [a, b] = true) (ha : (starEach [a, b] X.env = (false, eval a X.env) :: starEach [b] X.env) → (starEach [b] X.env = (false, eval b X.env) :: starEach [] X.env) → PA X [a, b] ta) :
    PS X (.Assign [.Tuple l k1 p1] (.Tuple [a, b] k2 p2) pos) (tPar d1 d2 ta) := by
  unfold mPar at h1
  split at h1
  · rename_i e2 e3
    cases e2
    cases e3
    obtain ⟨q1, h1⟩ := bd h1
    obtain ⟨q2, h1⟩ := bd h1
    obtain ⟨q3, h1⟩ := bd h1
    obtain ⟨q4, h1⟩ := ba h1
    obtain ⟨q5, h1⟩ := ba h1
    obtain ⟨q6, h1⟩ := bd h1
    obtain ⟨q7, h1⟩ := ba h1
    obtain ⟨q8, h1⟩ := ba h1
    obtain ⟨q9, h1⟩ := ba h1
    obtain ⟨q10, q11⟩ := ba h1
    rw [Bool.not_eq_true'] at q7 q8 q9
    have loc : ∀ z, isLocal X.env.scope z = true → X.env.scope.names.lookup z = some .local := fun z q => by
      unfold isLocal at q
      split at q
      · assumption
      · cases q
    exact ps_par g.gd.calm g.gd.nd q1 q2 q3 (loc _ q4) (loc _ q5) (ha (star_cons q10) (star_cons q11)) (par_sw g.ki (loc _ q4) (loc _ q5) q6 q7 q8 q9 q10 q11) (sw_sole fun _ _ z => nomatch z)
  · cases h1
theorem mCT_ok {N : List Str} {sc : Scope} {elt : E} {tg : Tg} {src : Src} {own : List Nat} {x : Expr} (h : mCT N sc elt tg src own x = true) :
    ∃ p e t it scope lp cp, x = .Call (.Name "tuple" p) [.ListComp e [⟨t, it, [], 0⟩] scope lp] [] cp ∧ glB sc "tuple" = true ∧ blkC N sc scope (own.map fun i => (N.getD i "", i)) = true ∧ notSet it = true ∧ mTg N (relS scope sc) scope true tg t = true ∧ mSrc N sc src t it = true ∧ mE N (relS scope sc) elt e = true := by
  unfold mCT at h
  split at h
  · obtain ⟨h1, h⟩ := bd h
    obtain ⟨h2, h⟩ := ba h
    obtain ⟨h3, h⟩ := bd h
    obtain ⟨h4, h⟩ := ba h
    obtain ⟨h5, h⟩ := ba h
    obtain ⟨h6, h⟩ := ba h
    obtain ⟨h7, h⟩ := ba h
    obtain ⟨h8, h9⟩ := ba h
    subst h1
    subst h3
    have h4 := List.isEmpty_iff.mp h4
    subst h4
    exact ⟨_, _, _, _, _, _, _, rfl, h2, h5, h6, h7, h8, h9⟩
  · exact nomatch h
theorem mCT_comp {N : List Str} {sc : Scope} {elt : E} {tg : Tg} {src : Src} {own : List Nat} {x : Expr} (h : mCT N sc elt tg src own x = true) : isComp x = false := by
  obtain ⟨p, e, t, it, scope, lp, cp, rfl, _⟩ := mCT_ok h
  rfl
theorem pe_tupX {X : Cx} {W : WX} {elt : E} {tg : Tg} {src : Src} {own : List Nat} {x : Expr} (g : Gs X) (tk : Takes X W) (u1 : USrc (CC X) (GG X) src) (u2 : UE (CC X) (GG X) elt) (h : mCT X.N X.env.scope elt tg src own x = true) : PE X x (rdX X.K X.mg W elt tg src own) := by
  obtain ⟨p, e, t, it, scope, lp, cp, rfl, h2, h5, h6, h7, h8, h9⟩ := mCT_ok h
  have g' := g.gd
  have pp := pe_lcX (pos := lp) (te := fun σ => (rd X.K X.mg (WAt W σ) elt).1) (tt := tYes) (g := rdTg X.K tg) (own := own.map fun i => (X.N.getD i "", i)) (W := W) (W' := fun σ => WAt W σ) g'.calm g'.nd (matsrc src X W t it g' tk u1 h8) (blkOk_by h5)
    (fun s H C cl fp => mTg_ok (X := X.blk s H scope (compEnvC scope cl C X.env) fp) (bs := scope) (cell := true) g'.calm g'.nd (fun _ y hy => by
      show (scope.names.lookup y == some NameKind.cell) = true
      rw [hy]
      rfl) h7)
    (fun s H C cl fp => pts_nil)
    (fun σ s H C cl fp xe tk' => (mat elt ((X.blk s H scope (compEnvC scope cl C X.env) fp).tr [] xe) (WAt W σ) e ⟨g'.calm, g'.nd, g'.hu, g'.bl⟩ tk' u2 h9).v) (fun σ => .inl ⟨g.stk, g.frm, tk, fun _ _ _ _ h => h⟩) (fold_no h6)
  have eo : (own.map fun i => (X.N.getD i "", i)).map (·.2) = own := by
    rw [List.map_map]
    exact List.map_id' _
  rw [eo] at pp
  exact bi_call g' (f := .tuple) rfl h2 rfl pp
mutual
theorem matS : ∀ (s : S) (X : Cx) (W : WX) (st : Stmt), Gs X → Takes X W → US (CC X) (GG X) (HasX X.K X.mg) (MM X) (DD X) s → mS X.N X.env.scope s st = true → PS X st (rdS X.K X.mg W s)
  | .asg m i e, X, W, st, g, tk, u, h => by
    obtain ⟨q, e1, h⟩ := onS_ok h
    obtain ⟨r, e2, h⟩ := onS_ok h
    rw [asAsg_ok e1, asNm_ok e2]
    obtain ⟨h1, h⟩ := bd h
    obtain ⟨h2, h⟩ := ba h
    obtain ⟨h3, h4⟩ := ba h
    exact ps_name g tk h1 h2 h3 u h4
  | .own m i e, X, W, st, g, tk, u, h => by
    obtain ⟨q, e1, h⟩ := onS_ok h
    obtain ⟨r, e2, h⟩ := onS_ok h
    rw [asAsg_ok e1, asNm_ok e2]
    obtain ⟨h1, h⟩ := bd h
    obtain ⟨h2, h⟩ := ba h
    obtain ⟨h3, h4⟩ := ba h
    exact ps_name g tk h1 h2 h3 u h4
  | .own2 i e, X, W, st, g, tk, u, h => by
    obtain ⟨q, e1, h⟩ := onS_ok h
    obtain ⟨r, e2, h⟩ := onS_ok h
    rw [asAsg_ok e1, asNm_ok e2]
    obtain ⟨h1, h⟩ := bd h
    obtain ⟨h2, h⟩ := ba h
    obtain ⟨h3, h4⟩ := ba h
    exact ps_name g tk h1 h2 h3 u h4
  | .odict i k, X, W, st, g, tk, u, h => by
    obtain ⟨q, e1, h⟩ := onS_ok h
    obtain ⟨r, e2, h⟩ := onS_ok h
    rw [asAsg_ok e1, asNm_ok e2]
    obtain ⟨h1, h⟩ := bd h
    obtain ⟨h2, h⟩ := ba h
    obtain ⟨h3, h4⟩ := ba h
    exact ps_name (e := .dict k) g tk h1 h2 h3 trivial h4
  | .unp m is e, X, W, st, g, tk, u, h => by
    obtain ⟨q, e1, h⟩ := onS_ok h
    obtain ⟨r, e2, h⟩ := onS_ok h
    rw [asAsg_ok e1, asTup_ok e2]
    obtain ⟨h1, h⟩ := ba h
    obtain ⟨h2, h3⟩ := ba h
    obtain ⟨g1, g2, g3⟩ := mNames_ok (bs := X.env.scope) g.gd.nd (fun _ y _ => g.hfn y) h1
    refine ps_asg (mat e X W _ g.gd tk u h3).v (pg_any g.gd.calm g1 g2 g3) (sw_sole fun _ _ z => nomatch z) ?_
    rw [Bool.or_eq_true, Bool.not_eq_true', Bool.or_eq_true] at h2
    rcases h2 with h2 | h2 | h2
    · exact stores_no h2
    · exact stores_const h2
    · rw [asTup_ok e2] at h2
      exact stores_cell h2
  | .par is es, X, W, st, g, tk, u, h => by
    obtain ⟨q, e1, h⟩ := onS_ok h
    obtain ⟨r, e2, h⟩ := onS_ok h
    obtain ⟨t, e3, h⟩ := onS_ok h
    rw [asAsg_ok e1, asTup_ok e2, asTup_ok e3]
    obtain ⟨h1, h2⟩ := ba h
    exact ps_parE g tk u h1 h2
  | .app m i e, X, W, st, g, tk, u, h => by
    obtain ⟨q, e1, h⟩ := onS_ok h
    obtain ⟨x, hx, h⟩ := onS_ok h
    rw [asEx_ok e1]
    exact ps_expr (pe_append hx (mat e X W x g.gd tk u h).v) (sw_no (meth_comp hx))
  | .appOwn i j, X, W, st, g, tk, u, h => by
    obtain ⟨q, e1, h⟩ := onS_ok h
    obtain ⟨x, hx, h⟩ := onS_ok h
    rw [asEx_ok e1]
    exact ps_expr (pe_append hx (mat (.var j) X W x g.gd tk trivial h).v) (sw_no (meth_comp hx))
  | .ext m i e, X, W, st, g, tk, u, h => by
    obtain ⟨q, e1, h⟩ := onS_ok h
    obtain ⟨x, hx, h⟩ := onS_ok h
    rw [asEx_ok e1]
    exact ps_expr (pe_extend hx (mat e X W x g.gd tk u h).v) (sw_no (meth_comp hx))
  | .set m i ie e, X, W, st, g, tk, u, h => by
    obtain ⟨q, e1, h⟩ := onS_ok h
    obtain ⟨r, e2, h⟩ := onS_ok h
    rw [asAsg_ok e1, asSub_ok e2]
    obtain ⟨h1, h⟩ := ba h
    obtain ⟨h2, h⟩ := ba h
    obtain ⟨h3, h4⟩ := ba h
    exact ps_asg (mat e X W _ g.gd tk u.2 h4).v (pg_sub (mat (.var i) X W _ g.gd tk trivial h1).v (mat ie X W _ g.gd tk u.1 h3).v set_list (assign_sub h2)) (sw_sole fun _ _ z => nomatch z) (stores_tg (fun _ _ _ z => nomatch z) fun _ _ z => nomatch z)
  | .set2 i ie je e, X, W, st, g, tk, u, h => by
    obtain ⟨q, e1, h⟩ := onS_ok h
    obtain ⟨r, e2, h⟩ := onS_ok h
    rw [asAsg_ok e1, asSub_ok e2]
    obtain ⟨h1, h⟩ := ba h
    obtain ⟨h2, h⟩ := ba h
    obtain ⟨h3, h4⟩ := ba h
    exact ps_asg (mat e X W _ g.gd tk u.2.2 h4).v (pg_sub (mat (.idx (.var i) ie) X W _ g.gd tk ⟨trivial, u.1⟩ h1).v (mat je X W _ g.gd tk u.2.1 h3).v set_list (assign_sub h2)) (sw_sole fun _ _ z => nomatch z) (stores_tg (fun _ _ _ z => nomatch z) fun _ _ z => nomatch z)
  | .setd m i ie e, X, W, st, g, tk, u, h => by
    obtain ⟨q, e1, h⟩ := onS_ok h
    obtain ⟨r, e2, h⟩ := onS_ok h
    rw [asAsg_ok e1, asSub_ok e2]
    obtain ⟨h1, h⟩ := ba h
    obtain ⟨h2, h⟩ := ba h
    obtain ⟨h3, h4⟩ := ba h
    exact ps_asg (mat e X W _ g.gd tk u.2 h4).v (pg_sub (mat (.var i) X W _ g.gd tk trivial h1).v (mat ie X W _ g.gd tk u.1 h3).v (set_dict (hu1 g.gd)) (assign_sub h2)) (sw_sole fun _ _ z => nomatch z) (stores_tg (fun _ _ _ z => nomatch z) fun _ _ z => nomatch z)
  | .compT d elt tg src own, X, W, st, g, tk, u, h => by
    cases d with
    | some i =>
      obtain ⟨q, e1, h⟩ := onS_ok h
      obtain ⟨r, e2, h⟩ := onS_ok h
      rw [asAsg_ok e1, asNm_ok e2]
      obtain ⟨h1, h⟩ := bd h
      obtain ⟨h2, h⟩ := ba h
      obtain ⟨h3, h4⟩ := ba h
      exact ps_nmE g h1 h2 (mCT_comp h4) (pe_tupX g tk u.1 u.2 h4)
    | none =>
      cases st with
      | Return o pos =>
        cases o with
        | some x => exact ps_ret (pe_tupX g tk u.1 u.2 h)
        | none => exact nomatch h
      | _ => exact nomatch h
  | .forO tg i c ks, X, W, st, g, tk, u, h => by
    obtain ⟨q, e1, h⟩ := onS_ok h
    rw [asFor_ok e1]
    obtain ⟨h1, h⟩ := ba h
    obtain ⟨h2, h⟩ := ba h
    obtain ⟨h3, h4⟩ := ba h
    obtain ⟨q1, q2, q3, q4⟩ := q
    have h4 : mOne X.N X.env.scope c q3 = true := h4
    cases q3 with
    | nil => cases h4
    | cons st' rr =>
      cases rr with
      | cons _ _ => cases h4
      | nil =>
        obtain ⟨r, e2, h5⟩ := onS_ok h4
        obtain ⟨h6, h7⟩ := ba h5
        rw [Bool.not_eq_true'] at h6
        have pst : PS X st' (tDrop (rdMC X.K X.mg W c)) := by
          rw [asEx_ok e2]
          exact ps_expr (pe_MC g.gd tk u.1 u.2 h7) (sw_no h6)
        exact ps_for g.hp g.gd.calm (pi_seq (mat (.var i) X W _ g.gd tk trivial h3).v) (mTg_ok (bs := X.env.scope) g.gd.calm g.gd.nd (fun _ y _ => g.hfn y) h2) (pss_cons pst pss_nil) (fold_no h1)
  | .appM i e, X, W, st, g, tk, u, h => by
    obtain ⟨q, e1, h⟩ := onS_ok h
    obtain ⟨x, hx, h⟩ := onS_ok h
    rw [asEx_ok e1]
    exact ps_expr (pe_append hx (mat e X W x g.gd tk u h).v) (sw_no (meth_comp hx))
  | .pop i j .no, X, W, st, g, tk, u, h => by
    obtain ⟨q, e1, h⟩ := onS_ok h
    obtain ⟨r, e2, h⟩ := onS_ok h
    rw [asAsg_ok e1, asNm_ok e2]
    obtain ⟨h1, h⟩ := bd h
    obtain ⟨h2, h⟩ := ba h
    obtain ⟨h3, h4⟩ := ba h
    exact ps_nmE g h1 h2 (meth0_comp h4) (pe_pop0 h4)
  | .pop i j (.yes e), X, W, st, g, tk, u, h => by
    obtain ⟨q, e1, h⟩ := onS_ok h
    obtain ⟨r, e2, h⟩ := onS_ok h
    rw [asAsg_ok e1, asNm_ok e2]
    obtain ⟨h1, h⟩ := bd h
    obtain ⟨h2, h⟩ := ba h
    obtain ⟨h3, h4⟩ := ba h
    obtain ⟨y, hy, h5⟩ := onS_ok h4
    exact ps_nmE g h1 h2 (meth_comp hy) (pe_popAt hy (mat e X W y g.gd tk u h5).v)
  | .appPop i j e, X, W, st, g, tk, u, h => by
    obtain ⟨q, e1, h⟩ := onS_ok h
    obtain ⟨x, hx, h⟩ := onS_ok h
    obtain ⟨y, hy, h⟩ := onS_ok h
    rw [asEx_ok e1]
    exact ps_expr (pe_append hx (pe_popAt hy (mat e X W y g.gd tk u h).v)) (sw_no (meth_comp hx))
  | .compPop i j e tg src, X, W, st, g, tk, u, h => by
    obtain ⟨q, e1, h⟩ := onS_ok h
    obtain ⟨r, e2, h⟩ := onS_ok h
    obtain ⟨h1, h⟩ := bd h
    obtain ⟨h2, h⟩ := ba h
    obtain ⟨h3, h⟩ := ba h
    obtain ⟨l, e3, h⟩ := onS_ok h
    rw [asAsg_ok e1, asNm_ok e2]
    rw [asLc_ok e3] at h3 ⊢
    obtain ⟨h0, h⟩ := ba h
    obtain ⟨h4, h0⟩ := bd h0
    obtain ⟨h5, h⟩ := ba h
    obtain ⟨h6, h⟩ := ba h
    obtain ⟨h7, h⟩ := ba h
    obtain ⟨h8, h⟩ := ba h
    obtain ⟨x, hx, h9⟩ := onS_ok h
    rw [h4, List.isEmpty_iff.mp h0] at h3 ⊢
    have g' := g.gd
    have gb : ∀ (s : Shared) (H : Hp) (C : Addr) (cl : List (Str × Addr)) (fp : List Addr), Gd (X.blk s H l.scope (compEnvC l.scope cl C X.env) fp) := fun s H C cl fp => ⟨g'.calm, g'.nd, g'.hu, g'.bl⟩
    have hg : ∀ (s : Shared) (H : Hp) (C : Addr) (cl : List (Str × Addr)) (fp : List Addr), PG (X.blk s H l.scope (compEnvC l.scope cl C X.env) fp) l.t (gName tg) := fun s H C cl fp => mTg_ok (X := X.blk s H l.scope (compEnvC l.scope cl C X.env) fp) (bs := l.scope) (cell := true) (tg := .name tg) g'.calm g'.nd (fun _ y hy => by
      show (l.scope.names.lookup y == some NameKind.cell) = true
      rw [hy]
      rfl) h7
    have he : ∀ (s : Shared) (H : Hp) (C : Addr) (cl : List (Str × Addr)) (fp : List Addr), PE (X.blk s H l.scope (compEnvC l.scope cl C X.env) fp) l.c (tBM X.K "list" rPopAt (tVar j) (tCons (rd X.K X.mg W0 e).1 tNil)) := fun s H C cl fp =>
      pe_popAt (X := X.blk s H l.scope (compEnvC l.scope cl C X.env) fp) hx (mat e (X.blk s H l.scope (compEnvC l.scope cl C X.env) fp) W0 x (gb s H C cl fp) takes0 u.1 h9).v
    have h3' : (match X.env.scope.names.lookup r.1 with
      | some .local => (r.2.line == l.pos.line) && !(l.scope.names.any fun (n, k) => n == r.1 && (k == .local || k == .cell))
      | some .cell => true
      | _ => false) = true := h3
    split at h3'
    · rename_i hl
      obtain ⟨q1, q2⟩ := ba h3'
      rw [Bool.not_eq_true'] at q2
      exact ps_setLc (te := tBM X.K "list" rPopAt (tVar j) (tCons (rd X.K X.mg W0 e).1 tNil)) (tt := tYes) (g := gName tg) (own := [(X.N.getD tg "", tg)]) g'.calm g'.nd h1 hl (sw_true g.ki hl q1 q2) (matsrc src X W l.t l.it g' tk u.2 h8) (blkOk_by h5) hg (fun s H C cl fp => pts_nil) he (fold_no h6)
    · rename_i hl
      have pp := pe_lc (pos := l.pos) (te := tBM X.K "list" rPopAt (tVar j) (tCons (rd X.K X.mg W0 e).1 tNil)) (tt := tYes) (g := gName tg) (own := [(X.N.getD tg "", tg)]) g'.calm g'.nd (matsrc src X W l.t l.it g' tk u.2 h8) (blkOk_by h5) hg (fun s H C cl fp => pts_nil) he (fold_no h6)
      exact ps_set g.gd.nd h1 (locB_ok h2) pp (sw_cell hl) (.inl (g.hfn r.1))
    · cases h3'
  | .ret e, X, W, st, g, tk, u, h => by
    cases st with
    | Return o pos =>
      cases o with
      | some x => exact ps_ret (mat e X W x g.gd tk u h).v
      | none =>
        cases e with
        | non => exact ps_retN
        | _ => exact nomatch h
    | _ => exact nomatch h
  | .raise c, X, W, st, g, tk, u, h => by
    obtain ⟨q, e1, h⟩ := onS_ok h
    obtain ⟨r, e2, h⟩ := onS_ok h
    obtain ⟨y, e3, h⟩ := onS_ok h
    obtain ⟨m, e4, h⟩ := onS_ok h
    rw [asRaise_ok e1, asCall1_ok e2, asNm_ok e3, asStr_ok e4]
    obtain ⟨h1, h⟩ := bd h
    obtain ⟨h2, h3⟩ := ba h
    subst h1
    obtain ⟨C, gC, qq, kC, r1, r2⟩ := (show HasX X.K X.mg y.1 from u)
    exact ⟨fun pins s σ H D I hh => (ps_raise g.gd.calm tk (pmk_own PySem.F.excBase_ValueError qq gC kC (raises_own r1 r2) (glB_ok h2) (okN1 h3))).run pins s σ H D I (hh C gC)⟩
  | .frz i, X, W, st, g, tk, u, h => nomatch h
  | .expr e, X, W, st, g, tk, u, h => by
    obtain ⟨q, e1, h⟩ := onS_ok h
    rw [asEx_ok e1]
    obtain ⟨h1, h2⟩ := ba h
    rw [Bool.not_eq_true'] at h1
    exact ps_expr (mat e X W _ g.gd tk u h2).v (sw_no h1)
  | .dead, X, W, st, g, tk, u, h => ⟨fun _ _ _ _ _ _ z => False.elim z⟩
  | .revN i, X, W, st, g, tk, u, h => by
    obtain ⟨q, e1, h⟩ := onS_ok h
    rw [asEx_ok e1]
    exact ps_expr (pe_reverse h) (sw_no (meth0_comp h))
  | .deepC i y F es, X, W, st, g, tk, u, h => by
    obtain ⟨q, e1, h⟩ := onS_ok h
    obtain ⟨r, e2, h⟩ := onS_ok h
    rw [asAsg_ok e1, asNm_ok e2]
    obtain ⟨h1, h⟩ := bd h
    obtain ⟨h2, h⟩ := ba h
    obtain ⟨h3, h4⟩ := ba h
    exact ps_name (e := .call y F es) g tk h1 h2 h3 u h4
  | .copyD j y F i, X, W, st, g, tk, u, h => by
    obtain ⟨q, e1, h⟩ := onS_ok h
    obtain ⟨r, e2, h⟩ := onS_ok h
    rw [asAsg_ok e1, asNm_ok e2]
    obtain ⟨h1, h⟩ := bd h
    obtain ⟨h2, h⟩ := ba h
    obtain ⟨h3, h4⟩ := ba h
    obtain ⟨k, fa, fd, ps, FO, hr, wh, hb⟩ := (show CC X y F from u)
    exact ps_nmE g h1 h2 (callE_comp h4) (pe_callG (es := .cons (.var i) .nil) (FnOk.froz FO) hr wh hb g.gd tk ⟨trivial, trivial⟩ h4)
  | .spoilD y d i, X, W, st, g, tk, u, h => by
    obtain ⟨q, e1, h⟩ := onS_ok h
    rw [asEx_ok e1]
    obtain ⟨h1, h2⟩ := ba h
    obtain ⟨k, fa, fd, ps, FO, hr, wh, hb⟩ := (show DD X y d from u)
    exact ps_expr (pe_callG (es := .cons (.var i) .nil) FO hr wh hb g.gd tk ⟨trivial, trivial⟩ h2) (sw_no (call_comp h1))
  | .spoilE y e, X, W, st, g, tk, u, h => by
    obtain ⟨q, e1, h⟩ := onS_ok h
    rw [asEx_ok e1]
    obtain ⟨h1, h2⟩ := ba h
    obtain ⟨k, fa, fd, ps, FO, hr, wh, hb⟩ := (show DD X y 6 from u.1)
    exact ps_expr (pe_callG (es := .cons e .nil) FO hr wh hb g.gd tk ⟨u.2, trivial⟩ h2) (sw_no (call_comp h1))
  | .newK2 d1 d2 F es1 es2, X, W, st, g, tk, u, h => by
    obtain ⟨q, e1, h⟩ := onS_ok h
    obtain ⟨r, e2, h⟩ := onS_ok h
    obtain ⟨t, e3, h⟩ := onS_ok h
    rw [asAsg_ok e1, asTup_ok e2, asTup_ok e3]
    obtain ⟨h1, h2⟩ := ba h
    split at h2
    · rename_i a b e4
      rw [e4] at h1 ⊢
      obtain ⟨h3, h4⟩ := ba h2
      exact ps_par2 (W := W) g h1 fun s1 s2 => pa_cons (pe_new g.gd tk u.1 u.2.1 h3) (pa_cons (pe_new g.gd tk u.1 u.2.2 h4) pa_nil s2) s1
    · cases h2
  | .pass, X, W, st, g, tk, u, h => by
    cases st with
    | Pass _ => exact ps_pass
    | _ => exact nomatch h
  | .brk, X, W, st, g, tk, u, h => by
    cases st with
    | Break _ => exact ps_break
    | _ => exact nomatch h
  | .ite c a b, X, W, st, g, tk, u, h => by
    cases st with
    | If x l r _ =>
      obtain ⟨h1, h⟩ := ba h
      obtain ⟨h2, h⟩ := ba h
      obtain ⟨h3, h4⟩ := ba h
      exact ps_if ((mat c X W x g.gd tk u.1 h2).t h1) (matSs a X W l g tk u.2.1 h3) (matSs b X W r g tk u.2.2 h4)
    | _ => exact nomatch h
  | .for tg src body ks, X, W, st, g, tk, u, h => by
    obtain ⟨q, e1, h⟩ := onS_ok h
    rw [asFor_ok e1]
    obtain ⟨h1, h⟩ := ba h
    obtain ⟨h2, h⟩ := ba h
    obtain ⟨h3, h4⟩ := ba h
    exact ps_for g.hp g.gd.calm (matsrc src X W _ _ g.gd tk u.1 h3) (mTg_ok (bs := X.env.scope) g.gd.calm g.gd.nd (fun _ y _ => g.hfn y) h2) (matSs body X W _ g tk u.2 h4) (fold_no h1)
  | .forR tg a body ks, X, W, st, g, tk, u, h => by
    obtain ⟨q, e1, h⟩ := onS_ok h
    rw [asFor_ok e1]
    obtain ⟨h1, h⟩ := ba h
    obtain ⟨h2, h⟩ := ba h
    obtain ⟨h3, h4⟩ := ba h
    exact ps_for g.hp g.gd.calm (matsrc (.range1 a) X W _ _ g.gd tk u.1 h3) (mTg_ok (bs := X.env.scope) g.gd.calm g.gd.nd (fun _ y _ => g.hfn y) h2) (matSs body X W _ g tk u.2 h4) (fold_no h1)
  | .forM tg e body ks, X, W, st, g, tk, u, h => by
    obtain ⟨q, e1, h⟩ := onS_ok h
    rw [asFor_ok e1]
    obtain ⟨h1, h⟩ := ba h
    obtain ⟨h2, h⟩ := ba h
    obtain ⟨h3, h4⟩ := ba h
    exact ps_for g.hp g.gd.calm (pi_seq (mat e X W _ g.gd tk u.1 h3).v) (mTg_ok (bs := X.env.scope) g.gd.calm g.gd.nd (fun _ y _ => g.hfn y) h2) (matSs body X W _ g tk u.2 h4) (fold_no h1)
  | .while c body ks, X, W, st, g, tk, u, h => by
    obtain ⟨q, e1, h⟩ := onS_ok h
    rw [asWhile_ok e1]
    obtain ⟨h1, h⟩ := ba h
    obtain ⟨h2, h3⟩ := ba h
    exact ps_while g.hp ((mat c X W _ g.gd tk u.1 h2).t h1) (matSs body X W _ g tk u.2 h3)
  | .forPop tg a j c body ks, X, W, st, g, tk, u, h => by
    obtain ⟨q, e1, h⟩ := onS_ok h
    obtain ⟨r, e2, h⟩ := onS_ok h
    rw [asFor_ok e1]
    obtain ⟨h1, h⟩ := bd h
    obtain ⟨h2, h⟩ := ba h
    obtain ⟨h3, h⟩ := ba h
    obtain ⟨h4, h⟩ := ba h
    obtain ⟨h5, h⟩ := ba h
    obtain ⟨h6, h⟩ := ba h
    obtain ⟨h7, h8⟩ := ba h
    obtain ⟨k1, k2⟩ := asPop_ok e2
    rw [k1]
    have pp : PE X (.Call (.Attribute (.Name r.2.1 r.2.2.1) "pop" r.2.2.2.1) [] [] r.2.2.2.2.1) (tBM0 X.K "list" rPop (tVar j)) := pe_bm0 PySem.F.plainAttrs_list PySem.F.slot_list_pop PySem.F.type_list_pop mt_pop (pe_var h1 (visB_ok h2) (okN1 h3) (okN2 h3)) rfl k2
    have pi : PE X (.Subscript (.Subscript r.1 (.Call (.Attribute (.Name r.2.1 r.2.2.1) "pop" r.2.2.2.1) [] [] r.2.2.2.2.1) r.2.2.2.2.2.2.1) r.2.2.2.2.2.1 r.2.2.2.2.2.2.2) (tOp (rIdx X.K) (tOp (rIdx X.K) (rd X.K X.mg W a).1 (tBM0 X.K "list" rPop (tVar j))) (tC (.int c))) :=
      pe_ix (ixr_idx (hu1 g.gd)) (pe_ix (ixr_idx (hu1 g.gd)) (mat a X W _ g.gd tk u.1 h5).v pp (plainIx_ok rfl)) (mat (.int c) X W _ g.gd tk trivial h6).v (plainIx_ok h4)
    exact ps_for g.hp g.gd.calm (pi_seq pi) (mTg_ok (bs := X.env.scope) g.gd.calm g.gd.nd (fun _ y _ => g.hfn y) h7) (matSs body X W _ g tk u.2 h8) (fold_no rfl)
  | .try1 body c e j, X, W, st, g, tk, u, h => by
    obtain ⟨q, e1, h⟩ := onS_ok h
    obtain ⟨h1, h⟩ := bd h
    obtain ⟨h2, h⟩ := bd h
    obtain ⟨h3, h⟩ := ba h
    obtain ⟨h4, h⟩ := ba h
    obtain ⟨h5, h⟩ := bd h
    obtain ⟨h6, h⟩ := ba h
    obtain ⟨h7, h8⟩ := ba h
    obtain ⟨r, e2, h7⟩ := onS_ok h7
    obtain ⟨y, e3, h7⟩ := onS_ok h7
    obtain ⟨i1, h7⟩ := bd h7
    obtain ⟨i2, h7⟩ := ba h7
    obtain ⟨i3, i4⟩ := ba h7
    obtain ⟨ok, C, hC⟩ := (show HasG X.K X.mg c 0 from u.1).2.1 h2
    have loc : X.env.kindOf q.n = some .local := by
      have hl : X.env.scope.names.lookup q.n = some .local := by
        unfold isLocal at h6
        split at h6
        · assumption
        · cases h6
      exact hl
    rw [asTry_ok e1]
    have key := ps_try_keep (X := X) (tb := fun W => rdSs X.K X.mg W body) (ts := fun _ _ _ => tSeq (tAsg (tVar e) (gName j)) tNext) (c := .ref C) (np := q.np) (pos := q.p2) (pos' := q.p1) (x := q.c) (n := q.n) (b₀ := q.b₀) (suite := []) (body := q.body)
      g.stk g.frm g.gd.nd h5 loc ⟨glB_ok h3, okN1 h4, .inl (by rw [h1]; exact hC)⟩ g.exn
      (fun W pn xe tk' hp => matSs body (X.tr pn xe) W q.body ⟨⟨g.gd.calm, g.gd.nd, g.gd.hu, g.gd.bl⟩, hp, g.hfn, g.ki, g.stk, g.frm, g.exn⟩ tk' u.2 h8)
      (fun a oe cls d pn hz hf => by
        rw [asAsg_ok e2, asNm_ok e3]
        have i4' : mE X.N X.env.scope (.var e) r.2.1 = true := i4
        have hv : ∃ z p, r.2.1 = .Name z p ∧ X.N[e]? = some z ∧ visB X.env.scope z = true ∧ okN z = true := by
          cases hx : r.2.1 with
          | Name z p =>
            rw [hx] at i4'
            obtain ⟨k1, k2⟩ := bd i4'
            obtain ⟨k2, k3⟩ := ba k2
            exact ⟨z, p, rfl, k1, k2, k3⟩
          | _ =>
            rw [hx] at i4'
            exact nomatch i4'
        obtain ⟨z, p, ez, k1, k2, k3⟩ := hv
        rw [ez]
        exact pss_cons (ps_set (X := X.suite a ((a, oe) :: pn)) g.gd.nd i1 (locB_ok i2) (pe_var (X := X.suite a ((a, oe) :: pn)) k1 (visB_ok k2) (okN1 k3) (okN2 k3)) (sw_no rfl) (.inl (g.hfn y.1))) pss_nil)
    exact ⟨fun pins s σ H D I hh => key.run pins s σ H D I (hh ok C hC)⟩
  | .retM e, X, W, st, g, tk, u, h => by
    cases st with
    | Return o pos =>
      cases o with
      | some x => exact ps_ret (mat e X W x g.gd tk u h).v
      | none =>
        cases e with
        | non => exact ps_retN
        | _ => exact nomatch h
    | _ => exact nomatch h
  | .setA i f e, X, W, st, g, tk, u, h => by
    obtain ⟨q, e1, h⟩ := onS_ok h
    obtain ⟨h1, h2⟩ := ba h
    obtain ⟨r, e2, h1⟩ := onS_ok h1
    obtain ⟨h3, h1⟩ := bd h1
    obtain ⟨h4, h1⟩ := bd h1
    obtain ⟨h5, h6⟩ := ba h1
    rw [asAsg_ok e1, asAttr_ok e2]
    subst h3
    exact ⟨fun pins s σ H D I ok => (ps_fld (pe_var h4 (visB_ok h5) (okN1 h6) (okN2 h6)) (mat e X W _ g.gd tk u.2 h2).v (sw_tgt fun _ _ z => nomatch z)).run pins s σ H D I (ok ((show HasG X.K X.mg (dot r.2.2.1) 0 from u.1).2.2 _ (undot_dot _)))⟩
  | .callM d c, X, W, st, g, tk, u, h => by
    cases d with
    | none =>
      obtain ⟨q, e1, h⟩ := onS_ok h
      obtain ⟨h1, h2⟩ := ba h
      rw [asEx_ok e1]
      rw [Bool.not_eq_true'] at h1
      exact ps_expr (pe_MC g.gd tk u.1 u.2 h2) (sw_no h1)
    | some d =>
      obtain ⟨q, e1, h⟩ := onS_ok h
      obtain ⟨r, e2, h⟩ := onS_ok h
      rw [asAsg_ok e1, asNm_ok e2]
      obtain ⟨h1, h⟩ := bd h
      obtain ⟨h2, h⟩ := ba h
      obtain ⟨h3, h4⟩ := ba h
      obtain ⟨h5, h6⟩ := ba h4
      exact ps_nmE g h1 h2 (call_comp h5) (pe_MC g.gd tk u.1 u.2 h6)
  | .iteM q c a b, X, W, st, g, tk, u, h => by
    cases st with
    | If x l r pos =>
      obtain ⟨h1, h⟩ := ba h
      obtain ⟨h2, h3⟩ := ba h
      obtain ⟨u1, u2, u3, u4, u5⟩ := u
      exact ps_if (pt_TM g.gd tk u1 u2 u3 h1) (matSs a X W l g tk u4 h2) (matSs b X W r g tk u5 h3)
    | _ => exact nomatch h
  | .callM2 d q c1 c2, X, W, st, g, tk, u, h => by
    obtain ⟨z, e1, h⟩ := onS_ok h
    obtain ⟨r, e2, h⟩ := onS_ok h
    rw [asAsg_ok e1, asNm_ok e2]
    obtain ⟨h1, h⟩ := bd h
    obtain ⟨h2, h⟩ := ba h
    obtain ⟨h3, h⟩ := ba h
    obtain ⟨t, e3, h⟩ := onS_ok h
    obtain ⟨h4, h⟩ := ba h
    obtain ⟨h5, h⟩ := ba h
    obtain ⟨h6, h7⟩ := ba h
    obtain ⟨u1, ⟨u2, u3⟩, u4, u5⟩ := u
    have e4 := asIfE_ok e3
    rw [e4]
    exact ps_nmE g h1 h2 rfl (pe_ifExp ((mat q X W _ g.gd tk u1 h5).t h4) (pe_MC g.gd tk u2 u3 h6) (pe_MC g.gd tk u4 u5 h7))
  | .newK d F es, X, W, st, g, tk, u, h => by
    obtain ⟨q, e1, h⟩ := onS_ok h
    obtain ⟨r, e2, h⟩ := onS_ok h
    rw [asAsg_ok e1, asNm_ok e2]
    obtain ⟨h1, h⟩ := bd h
    obtain ⟨h2, h⟩ := ba h
    obtain ⟨h3, h4⟩ := ba h
    obtain ⟨h5, h6⟩ := ba h4
    exact ps_nmE g h1 h2 (call_comp h5) (pe_new g.gd tk u.1 u.2 h6)
  | .setdMax i ke tg src m j F es, X, W, st, g, tk, u, h => by
    obtain ⟨q, e1, h⟩ := onS_ok h
    obtain ⟨r, e2, h⟩ := onS_ok h
    obtain ⟨t, e3, h⟩ := onS_ok h
    obtain ⟨l, e4, h⟩ := onS_ok h
    obtain ⟨p, e5, h⟩ := onS_ok h
    obtain ⟨h1, h⟩ := ba h
    obtain ⟨h2, h⟩ := ba h
    obtain ⟨h3, h⟩ := ba h
    obtain ⟨h4, h⟩ := ba h
    obtain ⟨h5, h⟩ := ba h
    obtain ⟨h0, h⟩ := ba h
    obtain ⟨k1, k2⟩ := bd h0
    obtain ⟨h6, h⟩ := ba h
    obtain ⟨h7, h⟩ := ba h
    obtain ⟨h8, h⟩ := ba h
    obtain ⟨h9, h⟩ := ba h
    obtain ⟨h10, h11⟩ := ba h
    obtain ⟨u1, u2, u3, u4⟩ := u
    rw [asAsg_ok e1, asSub_ok e2, asMax_ok e3, asLc_ok e4, k1, List.isEmpty_iff.mp k2, asAdd_ok e5]
    have g' := g.gd
    have gb : ∀ (s : Shared) (H : Hp) (C : Addr) (cl : List (Str × Addr)) (fp : List Addr), Gd (X.blk s H l.scope (compEnvC l.scope cl C X.env) fp) := fun s H C cl fp => ⟨g'.calm, g'.nd, g'.hu, g'.bl⟩
    have hg : ∀ (s : Shared) (H : Hp) (C : Addr) (cl : List (Str × Addr)) (fp : List Addr), PG (X.blk s H l.scope (compEnvC l.scope cl C X.env) fp) l.t (gName tg) := fun s H C cl fp => mTg_ok (X := X.blk s H l.scope (compEnvC l.scope cl C X.env) fp) (bs := l.scope) (cell := true) (tg := .name tg) g'.calm g'.nd (fun _ y hy => by
      show (l.scope.names.lookup y == some NameKind.cell) = true
      rw [hy]
      rfl) h8
    have he : ∀ (s : Shared) (H : Hp) (C : Addr) (cl : List (Str × Addr)) (fp : List Addr), PE (X.blk s H l.scope (compEnvC l.scope cl C X.env) fp) (.BinOp p.1 .Add p.2.1 p.2.2) (tOp (rBin X.K .add) (tC (.int 1)) (tCallS (PSpM X.K X.mg j F) (WE W0) (rdEs X.K X.mg W0 (insX j (.var i) es)))) := fun s H C cl fp =>
      pe_op (opr_bin .add) (mat (.int 1) (X.blk s H l.scope (compEnvC l.scope cl C X.env) fp) W0 p.1 (gb s H C cl fp) takes0 trivial h10).v (pe_fn (X := X.blk s H l.scope (compEnvC l.scope cl C X.env) fp) (gb s H C cl fp) takes0 u3 (UEs_insX (x := .var i) trivial u4) h11)
    have lc := pe_lc (pos := l.pos) (te := tOp (rBin X.K .add) (tC (.int 1)) (tCallS (PSpM X.K X.mg j F) (WE W0) (rdEs X.K X.mg W0 (insX j (.var i) es)))) (tt := tYes) (g := gName tg) (own := [(X.N.getD tg "", tg)]) g'.calm g'.nd (matsrc (.seq src) X W l.t l.it g' tk u2 h9) (blkOk_by h6) hg (fun s H C cl fp => pts_nil) he (fold_no h7)
    exact ps_asg (pe_maxD g'.calm (hu1 g') (glB_ok h4) (bl_of g' (by decide)) lc (mat (.int 0) X W t.2.1 g' tk trivial h5).v rfl) (pg_sub (mat (.var i) X W _ g.gd tk trivial h1).v (mat ke X W _ g.gd tk u1 h3).v (set_dict (hu1 g.gd)) (assign_sub h2)) (sw_sole fun _ _ z => nomatch z) (stores_tg (fun _ _ _ z => nomatch z) fun _ _ z => nomatch z)
  | .retD m j F es, X, W, st, g, tk, u, h => by
    cases st with
    | Return o pos =>
      cases o with
      | some x => exact ps_ret (pe_fn g.gd tk u.1 (UEs_insX (x := .dict true) trivial u.2) h)
      | none => exact nomatch h
    | _ => exact nomatch h
termination_by structural s => s
theorem matSs : ∀ (s : Ss) (X : Cx) (W : WX) (st : List Stmt), Gs X → Takes X W → USs (CC X) (GG X) (HasX X.K X.mg) (MM X) (DD X) s → mSs X.N X.env.scope s st = true → PSs X st (rdSs X.K X.mg W s)
  | .nil, X, W, st, g, tk, u, h => by
    cases st with
    | nil => exact pss_nil
    | cons _ _ => exact nomatch h
  | .cons s ss, X, W, st, g, tk, u, h => by
    by_cases q : isFrz s = true
    · have h' : mSs X.N X.env.scope ss st = true := by
        have h0 : (if isFrz s = true then mSs X.N X.env.scope ss st else _) = true := h
        rw [if_pos q] at h0
        exact h0
      cases s with
      | frz i => exact matSs ss X W st g tk u.2 h'
      | _ => exact nomatch q
    · have h0 : (if isFrz s = true then mSs X.N X.env.scope ss st else _) = true := h
      rw [if_neg q] at h0
      cases st with
      | nil => exact nomatch h0
      | cons y r =>
        obtain ⟨h1, h2⟩ := ba h0
        exact pss_cons (matS s X W y g tk u.1 h1) (matSs ss X W r g tk u.2 h2)
termination_by structural s => s
end
end Lh
set_option Elab.async false
set_option linter.all false
set_option maxRecDepth 100000
set_option maxHeartbeats 8000000
namespace Lh
open PySem PySem.Spec PyProof.Rows L2
section
variable {C C' : CP} {G G' : GP}
mutual
theorem UE.mono (hC : ∀ x F, C x F → C' x F) : ∀ e : E, UE C G e → UE C' G e
  | .var _, h => trivial
  | .int _, h => trivial
  | .bool _, h => trivial
  | .non, h => trivial
  | .str _, h => trivial
  | .glob _ _, h => h
  | .tup es, h => UEs.mono hC es h
  | .lst es, h => UEs.mono hC es h
  | .dict _, h => trivial
  | .bin _ a b, h => ⟨UE.mono hC a h.1, UE.mono hC b h.2⟩
  | .neg a, h => UE.mono hC a h
  | .cmp _ a b, h => ⟨UE.mono hC a h.1, UE.mono hC b h.2⟩
  | .chain _ _ a b c, h => ⟨UE.mono hC a h.1, UE.mono hC b h.2.1, UE.mono hC c h.2.2⟩
  | .and a b, h => ⟨UE.mono hC a h.1, UE.mono hC b h.2⟩
  | .or a b, h => ⟨UE.mono hC a h.1, UE.mono hC b h.2⟩
  | .not a, h => UE.mono hC a h
  | .ife c a b, h => ⟨UE.mono hC c h.1, UE.mono hC a h.2.1, UE.mono hC b h.2.2⟩
  | .idx a b, h => ⟨UE.mono hC a h.1, UE.mono hC b h.2⟩
  | .slice a lo hi, h => ⟨UE.mono hC a h.1, UO.mono hC lo h.2.1, UO.mono hC hi h.2.2⟩
  | .rev a, h => UE.mono hC a h
  | .comp elt _ src cond _, h => ⟨USrc.mono hC src h.1, UO.mono hC cond h.2.1, UE.mono hC elt h.2.2⟩
  | .call x F es, h => ⟨hC x F h.1, UEs.mono hC es h.2⟩
  | .attr _ _, h => h
  | .meth _ m F es, h => ⟨hC (dot m) F h.1, UEs.mono hC es h.2⟩
  | .b1 _ a, h => ⟨h.1, UE.mono hC a h.2⟩
  | .b2 _ a b, h => ⟨UE.mono hC a h.1, UE.mono hC b h.2⟩
  | .b3 _ a b c, h => ⟨UE.mono hC a h.1, UE.mono hC b h.2.1, UE.mono hC c h.2.2⟩
  | .rng src, h => USrc.mono hC src h
termination_by structural e => e
theorem UEs.mono (hC : ∀ x F, C x F → C' x F) : ∀ e : Es, UEs C G e → UEs C' G e
  | .nil, h => trivial
  | .cons e es, h => ⟨UE.mono hC e h.1, UEs.mono hC es h.2⟩
termination_by structural e => e
theorem UO.mono (hC : ∀ x F, C x F → C' x F) : ∀ e : Eo, UO C G e → UO C' G e
  | .no, h => trivial
  | .yes e, h => UE.mono hC e h
termination_by structural e => e
theorem USrc.mono (hC : ∀ x F, C x F → C' x F) : ∀ e : Src, USrc C G e → USrc C' G e
  | .seq e, h => UE.mono hC e h
  | .signs e, h => UE.mono hC e h
  | .range1 a, h => UE.mono hC a h
  | .range2 a b, h => ⟨UE.mono hC a h.1, UE.mono hC b h.2⟩
  | .enum e, h => UE.mono hC e h
  | .zip a b, h => ⟨UE.mono hC a h.1, UE.mono hC b h.2⟩
termination_by structural e => e
end
variable {P : Str → Prop} {M M' : MP} {D D' : Str → Nat → Prop}
mutual
theorem US.mono (hC : ∀ x F, C x F → C' x F) (hM : ∀ k m j F, M k m j F → M' k m j F) (hD : ∀ x d, D x d → D' x d) : ∀ s : S, US C G P M D s → US C' G P M' D' s
  | .asg _ _ e, h => UE.mono hC e h
  | .own _ _ e, h => UE.mono hC e h
  | .own2 _ e, h => UE.mono hC e h
  | .odict _ _, h => trivial
  | .unp _ _ e, h => UE.mono hC e h
  | .par _ es, h => UEs.mono hC es h
  | .app _ _ e, h => UE.mono hC e h
  | .appOwn _ _, h => trivial
  | .ext _ _ e, h => UE.mono hC e h
  | .set _ _ ie e, h => ⟨UE.mono hC ie h.1, UE.mono hC e h.2⟩
  | .set2 _ ie je e, h => ⟨UE.mono hC ie h.1, UE.mono hC je h.2.1, UE.mono hC e h.2.2⟩
  | .setd _ _ ie e, h => ⟨UE.mono hC ie h.1, UE.mono hC e h.2⟩
  | .compT _ elt _ src _, h => ⟨USrc.mono hC src h.1, UE.mono hC elt h.2⟩
  | .forO _ _ c _, h => ⟨hM _ _ _ _ h.1, UEs.mono hC c.es h.2⟩
  | .appM _ e, h => UE.mono hC e h
  | .pop _ _ e, h => UO.mono hC e h
  | .appPop _ _ e, h => UE.mono hC e h
  | .compPop _ _ e _ src, h => ⟨UE.mono hC e h.1, USrc.mono hC src h.2⟩
  | .ret e, h => UE.mono hC e h
  | .raise c, h => h
  | .frz _, h => trivial
  | .expr e, h => UE.mono hC e h
  | .pass, h => trivial
  | .dead, h => trivial
  | .revN _, h => trivial
  | .deepC _ x F es, h => ⟨hC x F h.1, UEs.mono hC es h.2⟩
  | .copyD _ x F _, h => hC x F h
  | .spoilD x d _, h => hD x d h
  | .spoilE x e, h => ⟨hD x 6 h.1, UE.mono hC e h.2⟩
  | .newK2 _ _ F es1 es2, h => ⟨hM _ _ _ _ h.1, UEs.mono hC es1 h.2.1, UEs.mono hC es2 h.2.2⟩
  | .brk, h => trivial
  | .ite c a b, h => ⟨UE.mono hC c h.1, USs.mono hC hM hD a h.2.1, USs.mono hC hM hD b h.2.2⟩
  | .for _ src body _, h => ⟨USrc.mono hC src h.1, USs.mono hC hM hD body h.2⟩
  | .while c body _, h => ⟨UE.mono hC c h.1, USs.mono hC hM hD body h.2⟩
  | .forPop _ a _ _ body _, h => ⟨UE.mono hC a h.1, USs.mono hC hM hD body h.2⟩
  | .forM _ a body _, h => ⟨UE.mono hC a h.1, USs.mono hC hM hD body h.2⟩
  | .forR _ a body _, h => ⟨UE.mono hC a h.1, USs.mono hC hM hD body h.2⟩
  | .try1 body _ _ _, h => ⟨h.1, USs.mono hC hM hD body h.2⟩
  | .retM e, h => UE.mono hC e h
  | .setA _ _ e, h => ⟨h.1, UE.mono hC e h.2⟩
  | .callM _ c, h => ⟨hM _ _ _ _ h.1, UEs.mono hC c.es h.2⟩
  | .iteM q c a b, h => ⟨UO.mono hC q h.1, hM _ _ _ _ h.2.1, UEs.mono hC c.es h.2.2.1, USs.mono hC hM hD a h.2.2.2.1, USs.mono hC hM hD b h.2.2.2.2⟩
  | .callM2 _ q c1 c2, h => ⟨UE.mono hC q h.1, ⟨hM _ _ _ _ h.2.1.1, UEs.mono hC c1.es h.2.1.2⟩, hM _ _ _ _ h.2.2.1, UEs.mono hC c2.es h.2.2.2⟩
  | .newK _ F es, h => ⟨hM _ _ _ _ h.1, UEs.mono hC es h.2⟩
  | .setdMax _ ke _ src m j F es, h => ⟨UE.mono hC ke h.1, UE.mono hC src h.2.1, hM _ _ _ _ h.2.2.1, UEs.mono hC es h.2.2.2⟩
  | .retD m j F es, h => ⟨hM _ _ _ _ h.1, UEs.mono hC es h.2⟩
termination_by structural s => s
theorem USs.mono (hC : ∀ x F, C x F → C' x F) (hM : ∀ k m j F, M k m j F → M' k m j F) (hD : ∀ x d, D x d → D' x d) : ∀ s : Ss, USs C G P M D s → USs C' G P M' D' s
  | .nil, h => trivial
  | .cons s ss, h => ⟨US.mono hC hM hD s h.1, USs.mono hC hM hD ss h.2⟩
termination_by structural s => s
end
end
/-- a def that may be called from the level k on -/
def HasL (P : Program) (w : World) (K : PySem.W.Frag) (mg : Str → Option Value) (base : Heap) (k : Nat) : CP := fun x F =>
  ∃ (j : Nat) (f : Addr) (fd : FuncData) (ps : List Str), j ≤ k ∧ FnOk P w K mg base (L2.CX P w) j f fd ps (PSp K mg F) ∧ Where K mg x f ∧ Binds K fd ps []
theorem HasL.up {P : Program} {w : World} {K : PySem.W.Frag} {mg : Str → Option Value} {base : Heap} {k l : Nat} {x : Str} {F : List Val → Res Val} (h : HasL P w K mg base k x F) (hl : k ≤ l) : HasL P w K mg base l x F := by
  obtain ⟨j, f, fd, ps, q, r⟩ := h
  exact ⟨j, f, fd, ps, Nat.le_trans q hl, r⟩
theorem HasL.at {P : Program} {w : World} {K : PySem.W.Frag} {mg : Str → Option Value} {base : Heap} {k : Nat} {A : Around} (r : Room k A) (x : Str) (F : List Val → Res Val) (h : HasL P w K mg base k x F) : HasC P w K mg base A x F := by
  obtain ⟨j, f, fd, ps, q, h1, h2, h3⟩ := h
  exact ⟨j, f, fd, ps, h1, r.mono q, h2, h3⟩
/-- a def by its name -/
theorem HasL.mk {P : Program} {w : World} {K : PySem.W.Frag} {mg : Str → Option Value} {base : Heap} {j k : Nat} {x : Str} {F : List Val → Res Val} {f : Addr} {fd : FuncData} {ps : List Str} (hx : undot x = none) (h1 : j ≤ k) (h2 : FnOk P w K mg base (L2.CX P w) j f fd ps (PSp K mg F)) (h3 : mg x = some (.ref f)) (h4 : PySem.W.keepIn K (.ref f) = true) (h5 : Binds K fd ps []) : HasL P w K mg base k x F :=
  ⟨j, f, fd, ps, h1, h2, ⟨fun _ => ⟨h3, h4⟩, fun m e => (by rw [hx] at e; cases e)⟩, h5⟩
def HasLM (P : Program) (w : World) (K : PySem.W.Frag) (mg : Str → Option Value) (base : Heap) (k : Nat) : MP := fun kd m j F =>
  ∃ (l : Nat) (f : Addr) (fd : FuncData) (ps : List Str), l + 1 ≤ k ∧ FnOk P w K mg base (L2.CX P w) l f fd ps (PSpM K mg j F) ∧ WhereM K mg kd m f ∧ Binds K fd ps []
theorem HasLM.up {P : Program} {w : World} {K : PySem.W.Frag} {mg : Str → Option Value} {base : Heap} {k l : Nat} {kd : MKd} {m : Str} {j : Nat} {F : List Val → Cont → OutM} (h : HasLM P w K mg base k kd m j F) (hl : k ≤ l) : HasLM P w K mg base l kd m j F := by
  obtain ⟨i, f, fd, ps, q, r⟩ := h
  exact ⟨i, f, fd, ps, Nat.le_trans q hl, r⟩
theorem HasLM.at {P : Program} {w : World} {K : PySem.W.Frag} {mg : Str → Option Value} {base : Heap} {k : Nat} {A : Around} (r : Room k A) (kd : MKd) (m : Str) (j : Nat) (F : List Val → Cont → OutM) (h : HasLM P w K mg base k kd m j F) : HasCM P w K mg base A kd m j F := by
  obtain ⟨l, f, fd, ps, q, h1, h2, h3⟩ := h
  exact ⟨l, f, fd, ps, h1, r.mono q, h2, h3⟩
def HasDL (P : Program) (w : World) (K : PySem.W.Frag) (mg : Str → Option Value) (base : Heap) (k : Nat) : Str → Nat → Prop := fun x d =>
  ∃ (j : Nat) (f : Addr) (fd : FuncData) (ps : List Str), j ≤ k ∧ FnOk P w K mg base (L2.CX P w) j f fd ps (PSpS K d) ∧ Where K mg x f ∧ Binds K fd ps []
theorem HasDL.up {P : Program} {w : World} {K : PySem.W.Frag} {mg : Str → Option Value} {base : Heap} {k l : Nat} {x : Str} {d : Nat} (h : HasDL P w K mg base k x d) (hl : k ≤ l) : HasDL P w K mg base l x d := by
  obtain ⟨j, f, fd, ps, q, r⟩ := h
  exact ⟨j, f, fd, ps, Nat.le_trans q hl, r⟩
theorem HasDL.at {P : Program} {w : World} {K : PySem.W.Frag} {mg : Str → Option Value} {base : Heap} {k : Nat} {A : Around} (r : Room k A) {x : Str} {d : Nat} (h : HasDL P w K mg base k x d) : HasD P w K mg base A x d := by
  obtain ⟨j, f, fd, ps, q, h1, h2, h3⟩ := h
  exact ⟨j, f, fd, ps, h1, r.mono q, h2, h3⟩
theorem run_len {n : Nat} {d : Def} {ws : List Val} (h : run n d ws ≠ .stuck) : ws.length = d.pars.length ∧ run n d ws = (evSs n d.body (startE d ws)).res := by
  unfold run at h ⊢
  split
  · exact ⟨by assumption, rfl⟩
  · rename_i hc
    rw [if_neg hc] at h
    exact absurd rfl h
theorem start_env {K : PySem.W.Frag} {N : Addr → Prop} {H : Hp} {vs : List V} {ws : List Val} {d : Def} (f : Fr H N) (r : Reps K N H vs ws) (hl : ws.length ≤ d.names.length) : EnvR K N H (fun _ => none) H (start d.names vs) (startE d ws) := by
  have e := r.length
  refine ⟨Same.refl H, f, fun a i h => (nomatch h), ?_, fun i s h => ?_⟩
  · unfold L2.start startE
    rw [List.length_append, List.length_append, List.length_map, List.length_map, List.length_replicate, List.length_replicate, e]
  · unfold startE at h
    unfold L2.start
    by_cases hi : i < ws.length
    · rw [List.getElem?_append_left (by rw [List.length_map]; exact hi), List.getElem?_map] at h
      cases q : ws[i]? with
      | none =>
        rw [q] at h
        cases h
      | some w =>
        rw [q] at h
        cases h
        obtain ⟨v, hv, rv⟩ := r.get q
        rw [List.getElem?_append_left (by rw [List.length_map, e]; exact hi), List.getElem?_map, hv]
        exact .val (rv.more fun a ha => ⟨ha, rfl⟩)
    · rw [List.getElem?_append_right (by rw [List.length_map]; omega), List.getElem?_replicate] at h
      split at h
      · cases h
        exact .non
      · cases h
/-- THE RULE: a def that matches keeps the promise -/
theorem fn_ok {P : Program} {w : World} {K : PySem.W.Frag} {mg : Str → Option Value} {base : Heap} {k : Nat} {x qual : Str} {params : Arguments} {body : List Stmt} {scope : Scope} {f : Addr} {fd : FuncData} (d : Def)
    (F : FunD K x qual params body scope [] [] f fd) (S : FnScope d.names d.pars scope) (hw : wfSs d.body = true) (hm : mSs d.names scope d.body body = true) (hb : ∀ y ∈ bNames, mg y = none)
    (hu : USs (HasL P w K mg base k) (HasG K mg) (HasX K mg) (HasLM P w K mg base k) (HasDL P w K mg base k) d.body) : FnOk P w K mg base (L2.CX P w) (k + 1) f fd d.pars (PSp K mg (run FUEL d)) := by
  refine F.ok S (fun vs H Q E h => ?_) fun cdv A outer s H vs Q E hr h => ?_
  · obtain ⟨N, ws, fr, r, h⟩ := h
    have hs : run FUEL d ws ≠ .stuck := by
      rcases h with ⟨w, h, _⟩ | ⟨c, h, _⟩ <;> (rw [h]; exact fun z => nomatch z)
    rw [r.length]
    exact (run_len hs).1
  · obtain ⟨N, ws, fr, r, h⟩ := h
    have hs : run FUEL d ws ≠ .stuck := by
      rcases h with ⟨w, h, _⟩ | ⟨c, h, _⟩ <;> (rw [h]; exact fun z => nomatch z)
    obtain ⟨hl, hrun⟩ := run_len hs
    have hpl : d.pars.length ≤ d.names.length := by
      have := congrArg List.length S.pre
      rw [List.length_take] at this
      omega
    have gd : Gd (cxOf (L2.CX P w) P w K mg base d.names qual scope f cdv A outer s H E) := ⟨rfl, S.nd, by
      have := hr.un
      show (A.deeper (envOfC qual scope s.heap.objs.size f cdv)).units + 65 < cLine
      omega, hb⟩
    have gs : Gs (cxOf (L2.CX P w) P w K mg base d.names qual scope f cdv A outer s H E) := ⟨gd, passes_of rfl, fun _ => rfl, S.kind, rfl, rfl, rfl⟩
    have tk : Takes (cxOf (L2.CX P w) P w K mg base d.names qual scope f cdv A outer s H E) (fun cls d _ H => E cls d H) := takes_of rfl rfl rfl rfl
    refine ⟨_, matSs d.body _ (fun cls d _ H => E cls d H) body gs tk (USs.mono (fun x F h => h.at hr) (fun kd m j F h => h.at hr) (fun x d h => h.at hr) d.body hu) hm, ?_⟩
    refine denSs (K := K) (mg := mg) (N0 := N) (H0 := H) FUEL d.body _ _ (fun _ => none) H _ _ hw (start_env fr r (by rw [hl]; exact hpl)) ?_
    rw [hrun] at h
    cases ho : evSs FUEL d.body (startE d ws) with
    | nx ρ' =>
      rw [ho] at h
      refine fun O' H' σ' e _ => ?_
      rcases h with ⟨v, h, q⟩ | ⟨c, h, q⟩
      · cases h
        exact q .non H' e.s0 .non
      · cases h
    | ret v =>
      rw [ho] at h
      refine fun z H' s r => ?_
      rcases h with ⟨v, h, q⟩ | ⟨c, h, q⟩
      · cases h
        exact q z H' s r
      · cases h
    | brk ρ' =>
      rw [ho] at h
      rcases h with ⟨v, h, q⟩ | ⟨c, h, q⟩ <;> cases h
    | exc c ρ' =>
      rw [ho] at h
      refine fun C O' H' σ' e _ m => ?_
      rcases h with ⟨v, h, q⟩ | ⟨c, h, q⟩
      · cases h
      · cases h
        exact q C H' e.s0 m
    | stuck =>
      rw [ho] at h
      rcases h with ⟨v, h, q⟩ | ⟨c, h, q⟩ <;> cases h
    | retM v ρ' =>
      rw [ho] at h
      rcases h with ⟨v, h, q⟩ | ⟨c, h, q⟩ <;> cases h
theorem only_frz {K : PySem.W.Frag} {H : Hp} {a : Addr} {xs : List V} (h : Only H) (s : SqL K H a xs) : FrzL K H a xs := by
  rcases s with s | s
  · rcases s with s | ⟨o, s⟩
    · rcases h a with q | ⟨o, ys, q⟩
      · rw [q] at s
        cases s
      · rw [q] at s
        cases s
    · exact .inl ⟨o, s⟩
  · exact .inr s
/-- the law's promise, at the script -/
theorem law_sp {K : PySem.W.Frag} {mg : Str → Option Value} {F : List Val → Res Val} {H : Hp} {a : Addr} {ns : List Int} (hF : F [.scr (ns.map .int)] = .ok (.bool true)) (hl : ns.length ≤ 63) (h : Only H) (s : SqL K H a (ns.map V.int)) :
    PSp K mg F [.ref a] H (fun v _ => v = .bl true) fun _ _ _ => False := by
  refine ⟨fun _ => True, [.scr (ns.map .int)], fun _ _ => trivial, .cons (.scr (only_frz h s) ?_ (reps_ints ns)) .nil, .inl ⟨_, hF, fun v H' _ r => ?_⟩⟩
  · rw [List.length_map]
    exact Nat.le_trans hl (by decide)
  · cases r
    rfl
end Lh
set_option Elab.async false
set_option linter.all false
set_option maxRecDepth 100000
set_option maxHeartbeats 8000000
namespace Lh
open PySem PySem.Spec PyProof.Rows L2
def CXany (P : Program) : CXT := fun outer H s E e s' => ∃ w, L2.CX P w outer H s E e s'
theorem fn_any {P : Program} {w : World} {K : PySem.W.Frag} {mg : Str → Option Value} {base : Heap} {k : Nat} {f : Addr} {fd : FuncData} {ps : List Str} {sp : Sp} (F : FnOk P w K mg base (L2.CX P w) k f fd ps sp) : FnOk P w K mg base (CXany P) k f fd ps sp :=
  ⟨F.len, fun A outer s H args us vs Q E hr he hb hv hs => codeAny_mono (F.run A outer s H args us vs Q E hr he hb hv hs) fun r s' h => by
    cases r with
    | error e => exact ⟨w, h⟩
    | ok fl => cases fl <;> exact h⟩
theorem no_exc {P : Program} (H : Hp) (s : Shared) (e : Value) (s' : Shared) (h : CXany P [] H s (fun _ _ _ => False) e s') : False := by
  obtain ⟨w, a, B, H', cls, d, h⟩ := h
  exact h.2.2.2.2.2.2.2
theorem Where.mk {K : PySem.W.Frag} {mg : Str → Option Value} {x : Str} {f : Addr} (hx : undot x = none) (h3 : mg x = some (.ref f)) (h4 : PySem.W.keepIn K (.ref f) = true) : Where K mg x f := ⟨fun _ => ⟨h3, h4⟩, fun m e => (by rw [hx] at e; cases e)⟩
end Lh
set_option Elab.async false
set_option linter.all false
set_option maxRecDepth 100000
set_option maxHeartbeats 8000000
namespace Lh
open PySem L2
section
variable {K : PySem.W.Frag} {mg : Str → Option Value} {W : WX} {H : Hp} {σ : St}
theorem PureV.tup {d : Nat} {a : Addr} (h : PureV K d H (.ref a)) : ∃ xs, H a = some (.tup xs) := by
  obtain ⟨N, w, r, hp⟩ := h
  cases r with
  | tup h1 hl r => exact ⟨_, h1⟩
  | _ => cases d <;> exact nomatch hp
theorem PureV.mv {d : Nat} {v : V} {H' : Hp} (hT : ∀ a xs, H a = some (.tup xs) → H' a = some (.tup xs)) (h : PureV K d H v) : PureV K d H' v := by
  obtain ⟨N, w, r, hp⟩ := h
  exact ⟨N, w, r.mv hT (pd_pure d w hp), hp⟩
theorem PureV.non {d : Nat} : PureV K d H .non := ⟨fun _ => True, .non, .non, by cases d <;> rfl⟩
end
open PySem.Spec PyProof.Rows
end Lh
set_option Elab.async false
set_option linter.all false
set_option maxRecDepth 100000
set_option maxHeartbeats 4000000
namespace Lh
open PySem PySem.Spec PyProof.Rows L2
end Lh
set_option Elab.async false
set_option linter.all false
set_option maxRecDepth 100000
set_option maxHeartbeats 4000000
namespace Lh
open L2 (atI ixN)
open PySem (Str)
theorem rangeV_eq : ∀ (n : Nat) (a : Int), rangeV a n = (List.range n).map fun i => .int (a + (i : Nat))
  | 0, _ => rfl
  | n + 1, a => by
    rw [List.range_succ_eq_map, List.map_cons, List.map_map]
    show .int a :: rangeV (a + 1) n = _
    rw [rangeV_eq n (a + 1)]
    have e0 : a + ((0 : Nat) : Int) = a := by omega
    rw [e0]
    congr 1
    refine List.map_congr_left fun i _ => ?_
    show Val.int (a + 1 + (i : Nat)) = Val.int (a + ((i + 1 : Nat) : Int))
    congr 1
    omega
theorem rangeR_nat {n : Nat} (h : n ≤ cap) : rangeR 0 (n : Int) = .ok ((List.range n).map fun i => .int ((i : Nat) : Int)) := by
  unfold rangeR
  have hc : cap = 100000 := rfl
  rw [if_pos ⟨by omega, by omega, by omega, by omega, by omega⟩]
  have e : ((n : Int) - 0).toNat = n := by omega
  rw [e, rangeV_eq]
  congr 1
  refine List.map_congr_left fun i _ => ?_
  rw [Int.zero_add]
theorem compL_map {α : Type} {f : Val → Res (Option Val)} {φ ψ : α → Val} : ∀ (l : List α), (∀ i ∈ l, f (φ i) = .ok (some (ψ i))) → compL f (l.map φ) = .ok (l.map ψ)
  | [], _ => rfl
  | i :: l, h => by
    have e := compL_map l fun j hj => h j (List.mem_cons_of_mem _ hj)
    show compL f (φ i :: l.map φ) = _
    unfold compL
    rw [h i List.mem_cons_self, e]
    rfl
theorem compL_filter {α : Type} {f : Val → Res (Option Val)} {φ ψ : α → Val} {p : α → Bool} : ∀ (l : List α), (∀ i ∈ l, f (φ i) = .ok (if p i then some (ψ i) else none)) → compL f (l.map φ) = .ok ((l.filter p).map ψ)
  | [], _ => rfl
  | i :: l, h => by
    have e := compL_filter l fun j hj => h j (List.mem_cons_of_mem _ hj)
    show compL f (φ i :: l.map φ) = _
    unfold compL
    rw [h i List.mem_cons_self, e, List.filter_cons]
    cases p i <;> rfl
theorem boolsOf_m {α : Type} (l : List α) (p : α → Bool) : boolsOf (l.map fun i => .bool (p i)) = some (l.map p) := by
  induction l with
  | nil => rfl
  | cons i l ih =>
    show (boolsOf (l.map fun i => .bool (p i))).map (p i :: ·) = _
    rw [ih]
    rfl
theorem any_m {α : Type} (l : List α) (p : α → Bool) : biV .any [.lst (l.map fun i => .bool (p i))] = .ok (.bool (l.any p)) := by
  show optR ((boolsOf _).map _) = _
  rw [boolsOf_m]
  show Res.ok (Val.bool ((l.map p).any id)) = _
  rw [List.any_map]
  rfl
theorem all_m {α : Type} (l : List α) (p : α → Bool) : biV .all [.lst (l.map fun i => .bool (p i))] = .ok (.bool (l.all p)) := by
  show optR ((boolsOf _).map _) = _
  rw [boolsOf_m]
  show Res.ok (Val.bool ((l.map p).all id)) = _
  rw [List.all_map]
  rfl
/-- a loop that looks: it ends at the first that does not hold -/
theorem forL_scan {α : Type} {step : Val → Env → Out} {fin : Env → Env} {φ : α → Val} {p : α → Bool} {v : Val} {st : Env} : ∀ (l : List α) (ρ0 : Env), fin ρ0 = st →
    (∀ i ∈ l, if p i then ∃ ρ', step (φ i) st = .nx ρ' ∧ fin ρ' = st else step (φ i) st = .ret v) → forL step fin (l.map φ) ρ0 = if l.all p then .nx st else .ret v
  | [], ρ0, h0, _ => by
    show Out.nx (fin ρ0) = _
    rw [h0]
    rfl
  | i :: l, ρ0, h0, h => by
    have hi := h i List.mem_cons_self
    show forL step fin (φ i :: l.map φ) ρ0 = _
    unfold forL
    rw [h0, List.all_cons]
    cases hp : p i with
    | true =>
      rw [hp] at hi
      obtain ⟨ρ', h1, h2⟩ := hi
      rw [h1]
      exact forL_scan l ρ' h2 fun j hj => h j (List.mem_cons_of_mem _ hj)
    | false =>
      rw [hp] at hi
      rw [show step (φ i) st = .ret v from hi]
      rfl
/-- .. while a word holds of what is made -/
theorem forL_inv {α β : Type} {step : Val → Env → Out} {fin : Env → Env} {φ : α → Val} {st : β → Env} {g : β → α → β} (I : β → Prop) : ∀ (l : List α) (b : β) (ρ0 : Env), fin ρ0 = st b → I b →
    (∀ b, ∀ i ∈ l, I b → (∃ ρ', step (φ i) (st b) = .nx ρ' ∧ fin ρ' = st (g b i)) ∧ I (g b i)) → forL step fin (l.map φ) ρ0 = .nx (st (l.foldl g b)) ∧ I (l.foldl g b)
  | [], b, ρ0, h0, hb, _ => by
    refine ⟨?_, hb⟩
    show Out.nx (fin ρ0) = _
    rw [h0]
    rfl
  | i :: l, b, ρ0, h0, hb, h => by
    obtain ⟨⟨ρ', h1, h2⟩, h3⟩ := h b i List.mem_cons_self hb
    have ih := forL_inv I l (g b i) ρ' h2 h3 fun b j hj => h b j (List.mem_cons_of_mem _ hj)
    refine ⟨?_, ih.2⟩
    show forL step fin (φ i :: l.map φ) ρ0 = _
    unfold forL
    rw [h0, h1]
    exact ih.1
theorem run_eq {n : Nat} {d : Def} {ws : List Val} (h : ws.length = d.pars.length) : run n d ws = (evSs n d.body (startE d ws)).res := if_pos h
def rowL (n : Nat) (f : Nat → Nat) : List Val := (List.range n).map fun b => .int ((f b : Nat) : Int)
def rowV (n : Nat) (f : Nat → Nat) : Val := .tup (rowL n f)
def tabL (n : Nat) (g : Nat → Nat → Nat) : List Val := (List.range n).map fun a => rowV n (g a)
def tabV (n : Nat) (g : Nat → Nat → Nat) : Val := .tup (tabL n g)
theorem ixN_nat {n a : Nat} (h : a < n) : ixN n ((a : Nat) : Int) = some a := by
  unfold ixN
  rw [if_pos (by omega), if_pos (by omega)]
  rfl
theorem atI_map {α : Type} {n a : Nat} {f : Nat → α} (h : a < n) : atI ((List.range n).map f) ((a : Nat) : Int) = some (f a) := by
  unfold atI
  rw [List.length_map, List.length_range, ixN_nat h]
  show ((List.range n).map f)[a]? = _
  rw [List.getElem?_map, List.getElem?_range h]
  rfl
theorem idx_tab {n a : Nat} {g : Nat → Nat → Nat} (h : a < n) : idxV (tabV n g) (.int ((a : Nat) : Int)) = .ok (rowV n (g a)) := by
  show optR (atI _ _) = _
  unfold tabL
  rw [atI_map h]
  rfl
theorem idx_row {n a : Nat} {f : Nat → Nat} (h : a < n) : idxV (rowV n f) (.int ((a : Nat) : Int)) = .ok (.int ((f a : Nat) : Int)) := by
  show optR (atI _ _) = _
  unfold rowL
  rw [atI_map h]
  rfl
theorem len_tab {n : Nat} {g : Nat → Nat → Nat} : biV .len [tabV n g] = .ok (.int (n : Int)) := by
  show Res.ok (Val.int ((tabL n g).length : Int)) = _
  unfold tabL
  rw [List.length_map, List.length_range]
theorem len_row {n : Nat} {f : Nat → Nat} : biV .len [rowV n f] = .ok (.int (n : Int)) := by
  show Res.ok (Val.int ((rowL n f).length : Int)) = _
  unfold rowL
  rw [List.length_map, List.length_range]
theorem ne_int (a b : Int) : cmpV .ne (.int a) (.int b) = .ok (.bool (decide (a ≠ b))) := by
  show Res.ok (Val.bool (!(a == b))) = _
  congr 2
  by_cases h : a = b <;> simp [h]
theorem eq_int (a b : Int) : cmpV .eq (.int a) (.int b) = .ok (.bool (decide (a = b))) := by
  show Res.ok (Val.bool (a == b)) = _
  rfl
end Lh
set_option Elab.async false
set_option linter.all false
set_option maxRecDepth 100000
set_option maxHeartbeats 4000000
namespace Lh
open PySem (Str)
section
variable {ρ ρ1 : Env} {n : Nat}
theorem r_var {i : Nat} {v : Val} (h : ρ[i]? = some (.val v)) : evE (.var i) ρ = .ok v := by
  show slotV ρ[i]? = _
  rw [h]
  rfl
theorem r_own {i : Nat} {v : List Val} (h : ρ[i]? = some (.own v)) : evE (.var i) ρ = .ok (.lst v) := by
  show slotV ρ[i]? = _
  rw [h]
  rfl
theorem r_own2 {i : Nat} {v : List (List Val)} (h : ρ[i]? = some (.own2 v)) : evE (.var i) ρ = .ok (.lst (v.map .lst)) := by
  show slotV ρ[i]? = _
  rw [h]
  rfl
theorem r_cons {e : E} {es : Es} {v : Val} {vs : List Val} (h : evE e ρ = .ok v) (t : evEs es ρ = .ok vs) : evEs (.cons e es) ρ = .ok (v :: vs) := by
  show (evE e ρ).bind _ = _
  rw [h]
  show (evEs es ρ).bind _ = _
  rw [t]
  rfl
theorem r_tup {es : Es} {vs : List Val} (t : evEs es ρ = .ok vs) (hl : vs.length ≤ cap) : evE (.tup es) ρ = .ok (.tup vs) := by
  show (evEs es ρ).bind _ = _
  rw [t]
  exact if_pos hl
theorem r_lst {es : Es} {vs : List Val} (t : evEs es ρ = .ok vs) (hl : vs.length ≤ cap) : evE (.lst es) ρ = .ok (.lst vs) := by
  show (evEs es ρ).bind _ = _
  rw [t]
  exact if_pos hl
theorem r_bin {op : Bop} {a b : E} {x y w : Val} (ha : evE a ρ = .ok x) (hb : evE b ρ = .ok y) (h : binV op x y = .ok w) : evE (.bin op a b) ρ = .ok w := by
  show (evE a ρ).bind _ = _
  rw [ha]
  show (evE b ρ).bind _ = _
  rw [hb]
  exact h
theorem r_cmp {op : Cop} {a b : E} {x y w : Val} (ha : evE a ρ = .ok x) (hb : evE b ρ = .ok y) (h : cmpV op x y = .ok w) : evE (.cmp op a b) ρ = .ok w := by
  show (evE a ρ).bind _ = _
  rw [ha]
  show (evE b ρ).bind _ = _
  rw [hb]
  exact h
theorem r_idx {a b : E} {x y w : Val} (ha : evE a ρ = .ok x) (hb : evE b ρ = .ok y) (h : idxV x y = .ok w) : evE (.idx a b) ρ = .ok w := by
  show (evE a ρ).bind _ = _
  rw [ha]
  show (evE b ρ).bind _ = _
  rw [hb]
  exact h
theorem r_neg {a : E} {i : Int} (ha : evE a ρ = .ok (.int i)) : evE (.neg a) ρ = .ok (.int (-i)) := by
  show (evE a ρ).bind _ = _
  rw [ha]
  rfl
theorem r_chain {o1 o2 : Cop} {a b c : E} {x y z : Val} {k1 k2 : Bool} (ha : evE a ρ = .ok x) (hb : evE b ρ = .ok y) (hc : evE c ρ = .ok z) (h1 : cmpV o1 x y = .ok (.bool k1)) (h2 : cmpV o2 y z = .ok (.bool k2)) : evE (.chain o1 o2 a b c) ρ = .ok (.bool (k1 && k2)) := by
  show (evE a ρ).bind _ = _
  rw [ha]
  show (evE b ρ).bind _ = _
  rw [hb]
  show (cmpV o1 x y).bind _ = _
  rw [h1]
  cases k1 with
  | true =>
    show (evE c ρ).bind _ = _
    rw [hc]
    exact h2
  | false => rfl
theorem r_and {a b : E} {k1 k2 : Bool} (ha : evE a ρ = .ok (.bool k1)) (hb : k1 = true → evE b ρ = .ok (.bool k2)) : evE (.and a b) ρ = .ok (.bool (k1 && k2)) := by
  show (evE a ρ).bind _ = _
  rw [ha]
  cases k1 with
  | true =>
    show (evE b ρ).bind _ = _
    rw [hb rfl]
    rfl
  | false => rfl
theorem r_or {a b : E} {k1 k2 : Bool} (ha : evE a ρ = .ok (.bool k1)) (hb : k1 = false → evE b ρ = .ok (.bool k2)) : evE (.or a b) ρ = .ok (.bool (k1 || k2)) := by
  show (evE a ρ).bind _ = _
  rw [ha]
  cases k1 with
  | false =>
    show (evE b ρ).bind _ = _
    rw [hb rfl]
    rfl
  | true => rfl
theorem r_not {a : E} {k : Bool} (ha : evE a ρ = .ok (.bool k)) : evE (.not a) ρ = .ok (.bool (!k)) := by
  show (evE a ρ).bind _ = _
  rw [ha]
  rfl
theorem r_ife {c a b : E} {k : Bool} {x y : Val} (hc : evE c ρ = .ok (.bool k)) (ha : k = true → evE a ρ = .ok x) (hb : k = false → evE b ρ = .ok y) : evE (.ife c a b) ρ = .ok (if k then x else y) := by
  show (evE c ρ).bind _ = _
  rw [hc]
  cases k with
  | false => exact hb rfl
  | true => exact ha rfl
theorem r_call {x : Str} {F : List Val → Res Val} {es : Es} {vs : List Val} {w : Val} (h : evEs es ρ = .ok vs) (hF : F vs = .ok w) : evE (.call x F es) ρ = .ok w := by
  show (evEs es ρ).bind _ = _
  rw [h]
  exact hF
theorem r_b1 {f : Bi} {a : E} {x w : Val} (ha : evE a ρ = .ok x) (h : biV f [x] = .ok w) : evE (.b1 f a) ρ = .ok w := by
  show (evE a ρ).bind _ = _
  rw [ha]
  exact h
theorem r_b2 {f : Bi} {a b : E} {x y w : Val} (ha : evE a ρ = .ok x) (hb : evE b ρ = .ok y) (hr : recvOk f x = true) (h : biV f [x, y] = .ok w) : evE (.b2 f a b) ρ = .ok w := by
  show (evE a ρ).bind _ = _
  rw [ha]
  show (if recvOk f x then _ else _) = _
  rw [if_pos hr, hb]
  exact h
theorem r_yes {a : E} {x : Val} (ha : evE a ρ = .ok x) : evEo (.yes a) ρ = .ok (some x) := by
  show (evE a ρ).bind _ = _
  rw [ha]
  rfl
theorem r_slice {a : E} {lo hi : Eo} {x w : Val} {l h : Option Val} {l' h' : Option Int} (ha : evE a ρ = .ok x) (hl : evEo lo ρ = .ok l) (hl' : optI l = .ok l') (hh : evEo hi ρ = .ok h) (hh' : optI h = .ok h') (hs : sliceV l' h' x = .ok w) : evE (.slice a lo hi) ρ = .ok w := by
  show (evE a ρ).bind _ = _
  rw [ha]
  show (evEo lo ρ).bind _ = _
  rw [hl]
  show (optI l).bind _ = _
  rw [hl']
  show (evEo hi ρ).bind _ = _
  rw [hh]
  show (optI h).bind _ = _
  rw [hh']
  exact hs
theorem r_rng {src : Src} {vs : List Val} (h : evSrc src ρ = .ok vs) : evE (.rng src) ρ = .ok (.lst vs) := by
  show (evSrc src ρ).bind _ = _
  rw [h]
  rfl
theorem r_seq {e : E} {x : Val} {xs : List Val} (h : evE e ρ = .ok x) (hi : itemsR x = .ok xs) : evSrc (.seq e) ρ = .ok xs := by
  show (evE e ρ).bind _ = _
  rw [h]
  exact hi
theorem r_range1 {a : E} {m : Nat} (h : evE a ρ = .ok (.int (m : Int))) (hm : m ≤ cap) : evSrc (.range1 a) ρ = .ok ((List.range m).map fun i => .int ((i : Nat) : Int)) := by
  show (evE a ρ).bind _ = _
  rw [h, Res.bind_ok]
  dsimp only
  rw [rangeR_nat hm]
theorem r_comp {α : Type} {elt : E} {tg : Tg} {src : Src} {own : List Nat} {l : List α} {φ ψ : α → Val} (hs : evSrc src ρ = .ok (l.map φ))
    (h : ∀ i ∈ l, ∃ ρ', bindT tg (φ i) (kill ρ own) = some ρ' ∧ evE elt ρ' = .ok (ψ i)) : evE (.comp elt tg src .no own) ρ = .ok (.lst (l.map ψ)) := by
  show (evSrc src ρ).bind _ = _
  rw [hs]
  show (compL _ _).bind _ = _
  rw [compL_map l (ψ := ψ)]
  · rfl
  · intro i hi
    obtain ⟨ρ', h1, h2⟩ := h i hi
    unfold compF
    rw [h1]
    show (evE elt ρ').bind _ = _
    rw [h2]
    rfl
theorem r_compF {α : Type} {elt c : E} {tg : Tg} {src : Src} {own : List Nat} {l : List α} {φ ψ : α → Val} {p : α → Bool} (hs : evSrc src ρ = .ok (l.map φ))
    (h : ∀ i ∈ l, ∃ ρ', bindT tg (φ i) (kill ρ own) = some ρ' ∧ evE c ρ' = .ok (.bool (p i)) ∧ (p i = true → evE elt ρ' = .ok (ψ i))) : evE (.comp elt tg src (.yes c) own) ρ = .ok (.lst ((l.filter p).map ψ)) := by
  show (evSrc src ρ).bind _ = _
  rw [hs]
  show (compL _ _).bind _ = _
  rw [compL_filter l (ψ := ψ) (p := p)]
  · rfl
  · intro i hi
    obtain ⟨ρ', h1, h2, h3⟩ := h i hi
    unfold compF
    rw [h1]
    show (evE c ρ').bind _ = _
    rw [h2]
    cases hp : p i with
    | true =>
      show (evE elt ρ').bind _ = _
      rw [h3 hp]
      rfl
    | false => rfl
theorem s_cons {s : S} {ss : Ss} {o : Out} (h : evS n s ρ = .nx ρ1) (t : evSs n ss ρ1 = o) : evSs n (.cons s ss) ρ = o := by
  show (evS n s ρ).bind _ = _
  rw [h]
  exact t
theorem s_ret {e : E} {ss : Ss} {v : Val} (h : evE e ρ = .ok v) : evSs n (.cons (.ret e) ss) ρ = .ret v := by
  show ((evE e ρ).out ρ .ret).bind _ = _
  rw [h]
  rfl
theorem s_if {c : E} {a b ss : Ss} {k : Bool} {v : Val} {o : Out} (hc : evE c ρ = .ok (.bool k)) (ha : k = true → evSs n a ρ = .ret v) (hb : k = false → evSs n b ρ = .nx ρ1) (hr : k = false → evSs n ss ρ1 = o) : evSs n (.cons (.ite c a b) ss) ρ = if k then .ret v else o := by
  show ((evE c ρ).out ρ _).bind _ = _
  rw [hc]
  cases k with
  | true =>
    show (evSs n a ρ).bind _ = _
    rw [ha rfl]
    rfl
  | false =>
    show (evSs n b ρ).bind _ = _
    rw [hb rfl]
    exact hr rfl
theorem s_asg {i : Nat} {e : E} {v : Val} (h : evE e (eraseM ρ) = .ok v) (he : ρ.set i (.val v) = ρ1) : evS n (.asg .plain i e) ρ = .nx ρ1 := by
  show (evE e (eraseM ρ)).out ρ _ = _
  rw [h, ← he]
  rfl
theorem s_own {i : Nat} {e : E} {vs : List Val} (h : evE e (eraseM ρ) = .ok (.lst vs)) (hf : freshTop e = true) (he : ρ.set i (.own vs) = ρ1) : evS n (.own .plain i e) ρ = .nx ρ1 := by
  show (evE e (eraseM ρ)).out ρ _ = _
  rw [h, ← he]
  exact if_pos hf
theorem s_for {tg : Tg} {src : Src} {body : Ss} {ks : List Nat} {items : List Val} {o : Out} (hs : evSrc src (eraseM ρ) = .ok items) (h : forL (fun x ρ => asO (bindT tg x ρ) fun ρ' => evSs n body ρ') (fun ρ => kill ρ ks) items ρ = o) : evS n (.for tg src body ks) ρ = o := by
  show (evSrc src (eraseM ρ)).out ρ _ = _
  rw [hs]
  exact h
end
end Lh
set_option Elab.async false
set_option linter.all false
set_option maxRecDepth 100000
set_option maxHeartbeats 4000000
namespace Lh
open PySem (Str)
theorem lt_of_range {n i : Nat} (h : i ∈ List.range n) : i < n := List.mem_range.mp h
theorem forL_look {α : Type} {step : Val → Env → Out} {fin : Env → Env} {φ : α → Val} {p : α → Bool} {v : Val} {st : Env} (l : List α) (ρ0 : Env) (h0 : fin ρ0 = st)
    (h : ∀ i ∈ l, ∃ ρ', step (φ i) st = (if p i then .nx ρ' else .ret v) ∧ fin ρ' = st) : forL step fin (l.map φ) ρ0 = if l.all p then .nx st else .ret v :=
  forL_scan l ρ0 h0 fun i hi => by
    obtain ⟨ρ', h1, h2⟩ := h i hi
    rw [h1]
    cases p i with
    | true => exact ⟨ρ', rfl, h2⟩
    | false => rfl
section
variable {ρ ρ1 : Env} {n : Nat}
theorem s_one {s : S} : evSs n (.cons s .nil) ρ = evS n s ρ := by
  show (evS n s ρ).bind _ = _
  cases evS n s ρ <;> rfl
theorem s_check {c : E} {b k q : Bool} {ss : Ss} (hc : evE c ρ = .ok (.bool k)) (hr : k = false → evSs n ss ρ = if q then .nx ρ1 else .ret (.bool b)) :
    evSs n (.cons (.ite c (.cons (.ret (.bool b)) .nil) .nil) ss) ρ = if (!k) && q then .nx ρ1 else .ret (.bool b) := by
  rw [s_if hc (v := .bool b) (ρ1 := ρ) (o := if q then .nx ρ1 else .ret (.bool b)) (fun _ => s_ret rfl) (fun _ => rfl) hr]
  cases k <;> rfl
theorem s_check1 {c : E} {b k : Bool} (hc : evE c ρ = .ok (.bool k)) : evSs n (.cons (.ite c (.cons (.ret (.bool b)) .nil) .nil) .nil) ρ = if !k then .nx ρ else .ret (.bool b) := by
  rw [s_if hc (v := .bool b) (ρ1 := ρ) (o := .nx ρ) (fun _ => s_ret rfl) (fun _ => rfl) fun _ => rfl]
  cases k <;> rfl
end
theorem lay_ints {α : Type} (f : α → Int) (n : Nat) (l : List α) : (l.map fun i => Val.int (f i)).all (Val.lay n) = true := by
  rw [List.all_map, List.all_eq_true]
  intro i _
  cases n <;> rfl
theorem mul_intR {a b : Int} (h : small64 b = true) : binV .mul (.int a) (.int b) = .ok (.int (a * b)) := by
  show (if small64 a || small64 b then _ else _) = _
  rw [h, Bool.or_true]
  rfl
theorem mul_intL {a b : Int} (h : small64 a = true) : binV .mul (.int a) (.int b) = .ok (.int (a * b)) := by
  show (if small64 a || small64 b then _ else _) = _
  rw [h, Bool.true_or]
  rfl
theorem mod_int {a b : Int} (h : b ≠ 0) : binV .mod (.int a) (.int b) = .ok (.int (a.fmod b)) := if_pos h
theorem fdiv_int {a b : Int} (h : b ≠ 0 ∧ b.natAbs < 1073741824) : binV .fdiv (.int a) (.int b) = .ok (.int (a.fdiv b)) := if_pos h
end Lh
set_option Elab.async false
set_option linter.all false
set_option maxRecDepth 100000
set_option maxHeartbeats 4000000
namespace Lh
open L2 (atI ixN)
open PySem (Str)
structure IsE (e : E) (ρ : Env) (v : Val) : Prop where h : evE e ρ = .ok v
structure IsEs (e : Es) (ρ : Env) (v : List Val) : Prop where h : evEs e ρ = .ok v
structure IsEo (e : Eo) (ρ : Env) (v : Option Val) : Prop where h : evEo e ρ = .ok v
structure IsSrc (e : Src) (ρ : Env) (v : List Val) : Prop where h : evSrc e ρ = .ok v
structure Is2 (f : Val → Val → Res Val) (x y v : Val) : Prop where h : f x y = .ok v
structure IsF (f : List Val → Res Val) (xs : List Val) (v : Val) : Prop where h : f xs = .ok v
structure IsIt (x : Val) (v : List Val) : Prop where h : itemsR x = .ok v
structure IsSl (l h' : Option Int) (x v : Val) : Prop where h : sliceV l h' x = .ok v
structure IsOpt (o : Option Val) (v : Option Int) : Prop where h : optI o = .ok v
structure IsV (ρ : Env) (i : Nat) (s : Slot) : Prop where h : ρ[i]? = some s
theorem vs {s t : Slot} {ρ : Env} {i : Nat} (h : IsV ρ i s) : IsV (t :: ρ) (i + 1) s := ⟨h.h⟩
structure IsS (n : Nat) (ss : Ss) (ρ : Env) (o : Out) : Prop where h : evSs n ss ρ = o
structure Is1 (n : Nat) (s : S) (ρ : Env) (o : Out) : Prop where h : evS n s ρ = o
section
variable {ρ ρ1 ρ2 : Env} {n : Nat}
theorem w_var {i : Nat} {v : Val} (h : IsV ρ i (.val v)) : IsE (.var i) ρ v := ⟨r_var h.h⟩
theorem w_own {i : Nat} {v : List Val} (h : IsV ρ i (.own v)) : IsE (.var i) ρ (.lst v) := ⟨r_own h.h⟩
theorem w_own2 {i : Nat} {v : List (List Val)} (h : IsV ρ i (.own2 v)) : IsE (.var i) ρ (.lst (v.map .lst)) := ⟨r_own2 h.h⟩
theorem w_int {i : Int} : IsE (.int i) ρ (.int i) := ⟨rfl⟩
theorem w_bool {i : Bool} : IsE (.bool i) ρ (.bool i) := ⟨rfl⟩
theorem w_str {i : Str} : IsE (.str i) ρ (.str i) := ⟨rfl⟩
theorem w_non : IsE .non ρ .non := ⟨rfl⟩
theorem w_glob {x : Str} {i : Int} : IsE (.glob x i) ρ (.int i) := ⟨rfl⟩
theorem w_nil : IsEs .nil ρ [] := ⟨rfl⟩
theorem w_cons {e : E} {es : Es} {v : Val} {vs : List Val} (h : IsE e ρ v) (t : IsEs es ρ vs) : IsEs (.cons e es) ρ (v :: vs) := ⟨r_cons h.h t.h⟩
theorem w_tup {es : Es} {vs : List Val} (t : IsEs es ρ vs) (hl : vs.length ≤ cap) : IsE (.tup es) ρ (.tup vs) := ⟨r_tup t.h hl⟩
theorem w_lst {es : Es} {vs : List Val} (t : IsEs es ρ vs) (hl : vs.length ≤ cap) : IsE (.lst es) ρ (.lst vs) := ⟨r_lst t.h hl⟩
theorem w_bin {op : Bop} {a b : E} {x y w : Val} (ha : IsE a ρ x) (hb : IsE b ρ y) (h : Is2 (binV op) x y w) : IsE (.bin op a b) ρ w := ⟨r_bin ha.h hb.h h.h⟩
theorem w_cmp {op : Cop} {a b : E} {x y w : Val} (ha : IsE a ρ x) (hb : IsE b ρ y) (h : Is2 (cmpV op) x y w) : IsE (.cmp op a b) ρ w := ⟨r_cmp ha.h hb.h h.h⟩
theorem w_idx {a b : E} {x y w : Val} (ha : IsE a ρ x) (hb : IsE b ρ y) (h : Is2 idxV x y w) : IsE (.idx a b) ρ w := ⟨r_idx ha.h hb.h h.h⟩
theorem w_neg {a : E} {i : Int} (ha : IsE a ρ (.int i)) : IsE (.neg a) ρ (.int (-i)) := ⟨r_neg ha.h⟩
theorem w_chain {o1 o2 : Cop} {a b c : E} {x y z : Val} {k1 k2 : Bool} (ha : IsE a ρ x) (hb : IsE b ρ y) (hc : IsE c ρ z) (h1 : Is2 (cmpV o1) x y (.bool k1)) (h2 : Is2 (cmpV o2) y z (.bool k2)) : IsE (.chain o1 o2 a b c) ρ (.bool (k1 && k2)) := ⟨r_chain ha.h hb.h hc.h h1.h h2.h⟩
theorem w_and {a b : E} {k1 k2 : Bool} (ha : IsE a ρ (.bool k1)) (hb : k1 = true → IsE b ρ (.bool k2)) : IsE (.and a b) ρ (.bool (k1 && k2)) := ⟨r_and ha.h fun q => (hb q).h⟩
theorem w_or {a b : E} {k1 k2 : Bool} (ha : IsE a ρ (.bool k1)) (hb : k1 = false → IsE b ρ (.bool k2)) : IsE (.or a b) ρ (.bool (k1 || k2)) := ⟨r_or ha.h fun q => (hb q).h⟩
theorem w_not {a : E} {k : Bool} (ha : IsE a ρ (.bool k)) : IsE (.not a) ρ (.bool (!k)) := ⟨r_not ha.h⟩
theorem w_ife {c a b : E} {k : Bool} {x y : Val} (hc : IsE c ρ (.bool k)) (ha : k = true → IsE a ρ x) (hb : k = false → IsE b ρ y) : IsE (.ife c a b) ρ (if k then x else y) := ⟨r_ife hc.h (fun q => (ha q).h) fun q => (hb q).h⟩
theorem w_call {x : Str} {F : List Val → Res Val} {es : Es} {vs : List Val} {w : Val} (h : IsEs es ρ vs) (hF : IsF F vs w) : IsE (.call x F es) ρ w := ⟨r_call h.h hF.h⟩
theorem w_b1 {f : Bi} {a : E} {x w : Val} (ha : IsE a ρ x) (h : IsF (biV f) [x] w) : IsE (.b1 f a) ρ w := ⟨r_b1 ha.h h.h⟩
theorem w_b2 {f : Bi} {a b : E} {x y w : Val} (ha : IsE a ρ x) (hb : IsE b ρ y) (hr : recvOk f x = true) (h : IsF (biV f) [x, y] w) : IsE (.b2 f a b) ρ w := ⟨r_b2 ha.h hb.h hr h.h⟩
theorem w_no : IsEo .no ρ none := ⟨rfl⟩
theorem w_yes {a : E} {x : Val} (ha : IsE a ρ x) : IsEo (.yes a) ρ (some x) := ⟨r_yes ha.h⟩
theorem w_slice {a : E} {lo hi : Eo} {x w : Val} {l h : Option Val} {l' h' : Option Int} (ha : IsE a ρ x) (hl : IsEo lo ρ l) (hl' : IsOpt l l') (hh : IsEo hi ρ h) (hh' : IsOpt h h') (hs : IsSl l' h' x w) : IsE (.slice a lo hi) ρ w := ⟨r_slice ha.h hl.h hl'.h hh.h hh'.h hs.h⟩
theorem w_opt0 : IsOpt none none := ⟨rfl⟩
theorem w_opt1 {i : Int} : IsOpt (some (.int i)) (some i) := ⟨rfl⟩
theorem w_sl_tup {l h : Option Int} {xs : List Val} : IsSl l h (.tup xs) (.tup (cut xs l h)) := ⟨rfl⟩
theorem w_sl_lst {l h : Option Int} {xs : List Val} : IsSl l h (.lst xs) (.lst (cut xs l h)) := ⟨rfl⟩
theorem w_rng {src : Src} {vs : List Val} (h : IsSrc src ρ vs) : IsE (.rng src) ρ (.lst vs) := ⟨r_rng h.h⟩
theorem w_seq {e : E} {x : Val} {xs : List Val} (h : IsE e ρ x) (hi : IsIt x xs) : IsSrc (.seq e) ρ xs := ⟨r_seq h.h hi.h⟩
theorem w_range1 {a : E} {m : Nat} (h : IsE a ρ (.int (m : Int))) (hm : m ≤ cap) : IsSrc (.range1 a) ρ ((List.range m).map fun i => .int ((i : Nat) : Int)) := ⟨r_range1 h.h hm⟩
theorem w_comp {α : Type} {elt : E} {tg : Tg} {src : Src} {own : List Nat} {l : List α} {φ ψ : α → Val} (hs : IsSrc src ρ (l.map φ))
    (h : ∀ i ∈ l, ∃ ρ', bindT tg (φ i) (kill ρ own) = some ρ' ∧ IsE elt ρ' (ψ i)) : IsE (.comp elt tg src .no own) ρ (.lst (l.map ψ)) :=
  ⟨r_comp hs.h fun i hi => let ⟨ρ', a, b⟩ := h i hi; ⟨ρ', a, b.h⟩⟩
theorem w_compF {α : Type} {elt c : E} {tg : Tg} {src : Src} {own : List Nat} {l : List α} {φ ψ : α → Val} {p : α → Bool} (hs : IsSrc src ρ (l.map φ))
    (h : ∀ i ∈ l, ∃ ρ', bindT tg (φ i) (kill ρ own) = some ρ' ∧ IsE c ρ' (.bool (p i)) ∧ (p i = true → IsE elt ρ' (ψ i))) : IsE (.comp elt tg src (.yes c) own) ρ (.lst ((l.filter p).map ψ)) :=
  ⟨r_compF hs.h fun i hi => let ⟨ρ', a, b, c⟩ := h i hi; ⟨ρ', a, b.h, fun q => (c q).h⟩⟩
theorem w_it_tup {xs : List Val} : IsIt (.tup xs) xs := ⟨rfl⟩
theorem w_it_lst {xs : List Val} : IsIt (.lst xs) xs := ⟨rfl⟩
theorem t_nil : IsS n .nil ρ (.nx ρ) := ⟨rfl⟩
theorem t_cons {s : S} {ss : Ss} {o : Out} (h : Is1 n s ρ (.nx ρ1)) (t : IsS n ss ρ1 o) : IsS n (.cons s ss) ρ o := ⟨s_cons h.h t.h⟩
theorem t_ret {e : E} {ss : Ss} {v : Val} (h : IsE e ρ v) : IsS n (.cons (.ret e) ss) ρ (.ret v) := ⟨s_ret h.h⟩
theorem t_asg {i : Nat} {e : E} {v : Val} (h : IsE e (eraseM ρ) v) (he : ρ.set i (.val v) = ρ1) : Is1 n (.asg .plain i e) ρ (.nx ρ1) := ⟨s_asg h.h he⟩
theorem t_ownL {i : Nat} {e : E} {vs : List Val} (h : IsE e (eraseM ρ) (.lst vs)) (hf : freshTop e = true) (he : ρ.set i (.own vs) = ρ1) : Is1 n (.own .plain i e) ρ (.nx ρ1) := ⟨s_own h.h hf he⟩
theorem t_own2 {i : Nat} {e : E} {xs : List Val} {vss : List (List Val)} (h : IsE e (eraseM ρ) (.lst xs)) (hl : lstsOf xs = some vss) (hf : fresh2 e = true) (he : ρ.set i (.own2 vss) = ρ1) : Is1 n (.own2 i e) ρ (.nx ρ1) := ⟨by
  show (evE e (eraseM ρ)).out ρ _ = _
  rw [h.h, ← he]
  show asO (lstsOf xs) _ = _
  rw [hl]
  exact if_pos hf⟩
theorem t_set2 {i : Nat} {ie je e : E} {v : Val} {k k2 : Int} {j j2 : Nat} {vs : List Val} {vss : List (List Val)} (h : IsE e ρ v) (hp : v.pure = true) (h2 : IsV ρ i (.own2 vss)) (hi : IsE ie ρ (.int k)) (hk : ixN vss.length k = some j) (hv : vss[j]? = some vs)
    (hj : IsE je ρ (.int k2)) (hk2 : ixN vs.length k2 = some j2) (he : ρ.set i (.own2 (vss.set j (vs.set j2 v))) = ρ1) : Is1 n (.set2 i ie je e) ρ (.nx ρ1) := ⟨by
  show ((evE e ρ).bind _).out ρ _ = _
  rw [h.h]
  show (if v.pure = true then Res.ok v else .stuck).out ρ _ = _
  rw [if_pos hp]
  show asO (own2Of ρ[i]?) _ = _
  rw [h2.h]
  show (evE ie ρ).out ρ _ = _
  rw [hi.h]
  show asO (ixN vss.length k) _ = _
  rw [hk]
  show asO vss[j]? _ = _
  rw [hv]
  show (evE je ρ).out ρ _ = _
  rw [hj.h]
  show asO (ixN vs.length k2) _ = _
  rw [hk2, ← he]
  rfl⟩
theorem t_for {tg : Tg} {src : Src} {body : Ss} {ks : List Nat} {items : List Val} {o : Out} (hs : IsSrc src (eraseM ρ) items) (h : forL (fun x ρ => asO (bindT tg x ρ) fun ρ' => evSs n body ρ') (fun ρ => kill ρ ks) items ρ = o) : Is1 n (.for tg src body ks) ρ o := ⟨s_for hs.h h⟩
theorem t_ite {c : E} {a b : Ss} {k : Bool} {o : Out} (hc : IsE c ρ (.bool k)) (ha : k = true → IsS n a ρ o) (hb : k = false → IsS n b ρ o) : Is1 n (.ite c a b) ρ o := ⟨by
  show (evE c ρ).out ρ _ = _
  rw [hc.h]
  cases k with
  | true => exact (ha rfl).h
  | false => exact (hb rfl).h⟩
theorem t_one {s : S} {o : Out} (h : Is1 n s ρ o) : IsS n (.cons s .nil) ρ o := ⟨s_one.trans h.h⟩
theorem t_check {c : E} {b k q : Bool} {ss : Ss} (hc : IsE c ρ (.bool k)) (hr : k = false → IsS n ss ρ (if q then .nx ρ1 else .ret (.bool b))) :
    IsS n (.cons (.ite c (.cons (.ret (.bool b)) .nil) .nil) ss) ρ (if (!k) && q then .nx ρ1 else .ret (.bool b)) := ⟨s_check hc.h fun q => (hr q).h⟩
theorem t_check1 {c : E} {b k : Bool} (hc : IsE c ρ (.bool k)) : IsS n (.cons (.ite c (.cons (.ret (.bool b)) .nil) .nil) .nil) ρ (if !k then .nx ρ else .ret (.bool b)) := ⟨s_check1 hc.h⟩
theorem t_look {α : Type} {tg : Tg} {src : Src} {body : Ss} {ks : List Nat} {φ : α → Val} {p : α → Bool} {v : Val} {st : Env} (l : List α) (hs : IsSrc src (eraseM ρ) (l.map φ)) (h0 : kill ρ ks = st)
    (h : ∀ i ∈ l, ∃ ρ' ρ'', bindT tg (φ i) st = some ρ' ∧ IsS n body ρ' (if p i then .nx ρ'' else .ret v) ∧ kill ρ'' ks = st) : Is1 n (.for tg src body ks) ρ (if l.all p then .nx st else .ret v) :=
  t_for hs (forL_look l ρ h0 fun i hi => by
    obtain ⟨ρ', ρ'', h1, h2, h3⟩ := h i hi
    exact ⟨ρ'', by rw [h1]; exact h2.h, h3⟩)
theorem t_loop {α β : Type} {tg : Tg} {src : Src} {body : Ss} {ks : List Nat} {φ : α → Val} {st : β → Env} {g : β → α → β} (I : β → Prop) (l : List α) (b : β) (hs : IsSrc src (eraseM ρ) (l.map φ)) (h0 : kill ρ ks = st b) (hb : I b)
    (h : ∀ b, ∀ i ∈ l, I b → ∃ ρ' ρ'', bindT tg (φ i) (st b) = some ρ' ∧ IsS n body ρ' (.nx ρ'') ∧ kill ρ'' ks = st (g b i) ∧ I (g b i)) : Is1 n (.for tg src body ks) ρ (.nx (st (l.foldl g b))) ∧ I (l.foldl g b) := by
  have q := forL_inv (step := fun x ρ => asO (bindT tg x ρ) fun ρ' => evSs n body ρ') (fin := fun ρ => kill ρ ks) (φ := φ) (st := st) (g := g) I l b ρ h0 hb fun b i hi hI => by
    obtain ⟨ρ', ρ'', h1, h2, h3, h4⟩ := h b i hi hI
    exact ⟨⟨ρ'', by rw [h1]; exact h2.h, h3⟩, h4⟩
  exact ⟨t_for hs q.1, q.2⟩
theorem fun_is {d : Def} {ws : List Val} {v : Val} (hl : ws.length = d.pars.length) (h : IsS FUEL d.body (startE d ws) (.ret v)) : IsF (run FUEL d) ws v := ⟨by
  rw [run_eq hl, h.h]
  rfl⟩
theorem i_tab {n a : Nat} {g : Nat → Nat → Nat} (h : a < n) : Is2 idxV (tabV n g) (.int ((a : Nat) : Int)) (rowV n (g a)) := ⟨idx_tab h⟩
theorem i_row {n a : Nat} {f : Nat → Nat} (h : a < n) : Is2 idxV (rowV n f) (.int ((a : Nat) : Int)) (.int ((f a : Nat) : Int)) := ⟨idx_row h⟩
theorem l_tab {n : Nat} {g : Nat → Nat → Nat} : IsF (biV .len) [tabV n g] (.int (n : Int)) := ⟨len_tab⟩
theorem l_row {n : Nat} {f : Nat → Nat} : IsF (biV .len) [rowV n f] (.int (n : Int)) := ⟨len_row⟩
theorem l_tup {xs : List Val} : IsF (biV .len) [.tup xs] (.int (xs.length : Int)) := ⟨rfl⟩
theorem l_lst {xs : List Val} : IsF (biV .len) [.lst xs] (.int (xs.length : Int)) := ⟨rfl⟩
theorem l_scr {xs : List Val} : IsF (biV .len) [.scr xs] (.int (xs.length : Int)) := ⟨rfl⟩
theorem c_ne (a b : Int) : Is2 (cmpV .ne) (.int a) (.int b) (.bool (decide (a ≠ b))) := ⟨ne_int a b⟩
theorem c_eq (a b : Int) : Is2 (cmpV .eq) (.int a) (.int b) (.bool (decide (a = b))) := ⟨eq_int a b⟩
theorem c_le {a b : Int} : Is2 (cmpV .le) (.int a) (.int b) (.bool (decide (a ≤ b))) := ⟨rfl⟩
theorem c_lt {a b : Int} : Is2 (cmpV .lt) (.int a) (.int b) (.bool (decide (a < b))) := ⟨rfl⟩
theorem c_gt {a b : Int} : Is2 (cmpV .gt) (.int a) (.int b) (.bool (decide (b < a))) := ⟨rfl⟩
theorem c_ge {a b : Int} : Is2 (cmpV .ge) (.int a) (.int b) (.bool (decide (b ≤ a))) := ⟨rfl⟩
theorem b_add {a b : Int} : Is2 (binV .add) (.int a) (.int b) (.int (a + b)) := ⟨rfl⟩
theorem b_sub {a b : Int} : Is2 (binV .sub) (.int a) (.int b) (.int (a - b)) := ⟨rfl⟩
theorem b_mulR {a b : Int} (h : small64 b = true) : Is2 (binV .mul) (.int a) (.int b) (.int (a * b)) := ⟨mul_intR h⟩
theorem b_mulL {a b : Int} (h : small64 a = true) : Is2 (binV .mul) (.int a) (.int b) (.int (a * b)) := ⟨mul_intL h⟩
theorem b_mod {a b : Int} (h : b ≠ 0) : Is2 (binV .mod) (.int a) (.int b) (.int (a.fmod b)) := ⟨mod_int h⟩
theorem b_fdiv {a b : Int} (h : b ≠ 0 ∧ b.natAbs < 1073741824) : Is2 (binV .fdiv) (.int a) (.int b) (.int (a.fdiv b)) := ⟨fdiv_int h⟩
theorem f_any {α : Type} (l : List α) (p : α → Bool) : IsF (biV .any) [.lst (l.map fun i => .bool (p i))] (.bool (l.any p)) := ⟨any_m l p⟩
theorem f_all {α : Type} (l : List α) (p : α → Bool) : IsF (biV .all) [.lst (l.map fun i => .bool (p i))] (.bool (l.all p)) := ⟨all_m l p⟩
theorem f_max {a b : Int} : IsF (biV .max2) [.int a, .int b] (.int (if b > a then b else a)) := ⟨rfl⟩
theorem f_tup {xs : List Val} : IsF (biV .tuple) [.lst xs] (.tup xs) := ⟨rfl⟩
theorem f_lst {xs : List Val} : IsF (biV .list) [.tup xs] (.lst xs) := ⟨rfl⟩
theorem f_lstR {n : Nat} {f : Nat → Nat} : IsF (biV .list) [rowV n f] (.lst (rowL n f)) := ⟨rfl⟩
theorem f_isiT {xs : List Val} : IsF (biV (.isinst .tup)) [.tup xs] (.bool true) := ⟨rfl⟩
theorem it_tab {n : Nat} {g : Nat → Nat → Nat} : IsIt (tabV n g) ((List.range n).map fun a => rowV n (g a)) := ⟨rfl⟩
theorem f_lenL {n : Nat} {f : Nat → Val} : IsF (biV .len) [.lst ((List.range n).map f)] (.int (n : Int)) := ⟨by
  show Res.ok (Val.int (((List.range n).map f).length : Int)) = _
  rw [List.length_map, List.length_range]⟩
theorem i_lstR {n a : Nat} {f : Nat → Val} (h : a < n) : Is2 idxV (.lst ((List.range n).map f)) (.int ((a : Nat) : Int)) (f a) := ⟨by
  show optR (atI _ _) = _
  rw [atI_map h]
  rfl⟩
end
end Lh
set_option Elab.async false
set_option linter.all false
set_option maxRecDepth 100000
set_option maxHeartbeats 4000000
namespace Lh
open PySem (Str)
def assocB (n : Nat) (g : Nat → Nat → Nat) : Bool := (List.range n).all fun a => (List.range n).all fun b => !(List.range n).any fun c => decide (((g (g a b) c : Nat) : Int) ≠ ((g a (g b c) : Nat) : Int))
def idemB (n : Nat) (g : Nat → Nat → Nat) : Bool := !(List.range n).any fun a => decide (((g a a : Nat) : Int) ≠ ((a : Nat) : Int))
def commB (n : Nat) (g : Nat → Nat → Nat) : Bool := (List.range n).all fun a => !(List.range n).any fun b => decide (((g a b : Nat) : Int) ≠ ((g b a : Nat) : Int))
def identB (n : Nat) (g : Nat → Nat → Nat) : Bool := (List.range n).any fun a => (List.range n).all fun b => decide (((g a b : Nat) : Int) = ((b : Nat) : Int))
/-- what is_ladder tells of a table of worths -/
def ladB (n : Nat) (g : Nat → Nat → Nat) : Bool := idemB n g && (commB n g && (assocB n g && identB n g))
end Lh
set_option Elab.async false
set_option linter.all false
set_option maxRecDepth 100000
set_option maxHeartbeats 4000000
namespace Lh
open L2 (atI)
open PySem (Str)
theorem c_ltT {a b : Int} (h : a < b) : Is2 (cmpV .lt) (.int a) (.int b) (.bool true) := by
  have := @c_lt a b
  rwa [decide_eq_true h] at this
theorem c_ltF {a b : Int} (h : ¬ a < b) : Is2 (cmpV .lt) (.int a) (.int b) (.bool false) := by
  have := @c_lt a b
  rwa [decide_eq_false h] at this
theorem c_eqT {a b : Int} (h : a = b) : Is2 (cmpV .eq) (.int a) (.int b) (.bool true) := by
  have := c_eq a b
  rwa [decide_eq_true h] at this
theorem c_eqF {a b : Int} (h : ¬ a = b) : Is2 (cmpV .eq) (.int a) (.int b) (.bool false) := by
  have := c_eq a b
  rwa [decide_eq_false h] at this
theorem t_ifT {n : Nat} {ρ : Env} {c : E} {a b ss : Ss} {v : Val} (hc : IsE c ρ (.bool true)) (ha : IsS n a ρ (.ret v)) : IsS n (.cons (.ite c a b) ss) ρ (.ret v) := ⟨by
  show (evS n (.ite c a b) ρ).bind _ = _
  rw [(t_ite hc (fun _ => ha) fun h => nomatch h).h]
  rfl⟩
theorem t_ifF {n : Nat} {ρ : Env} {c : E} {a ss : Ss} {o : Out} (hc : IsE c ρ (.bool false)) (h : IsS n ss ρ o) : IsS n (.cons (.ite c a .nil) ss) ρ o :=
  t_cons (t_ite hc (fun h => nomatch h) fun _ => t_nil) h
/-- a drawn cell -/
def cellI (ns : List Int) (k : Nat) : Int := if k < ns.length then ns.getD k 0 else if ns.isEmpty then 0 else ns.getD (k % ns.length) 0 * 31 + (k : Int)
theorem getS {ns : List Int} {k : Nat} (h : k < ns.length) : (ns.map Val.int)[k]? = some (.int (ns.getD k 0)) := by
  rw [List.getElem?_map, List.getElem?_eq_getElem h, List.getD_eq_getElem?_getD, List.getElem?_eq_getElem h]
  rfl
theorem c_eqS {ns : List Int} : Is2 (cmpV .eq) (.scr (ns.map .int)) (.lst []) (.bool ns.isEmpty) := ⟨by
  have e : (Val.scr (ns.map .int)).lay 60 = true := lay_ints id 59 ns
  show (if (Val.scr (ns.map .int)).lay 60 && (Val.lst []).lay 60 then _ else _) = _
  rw [e]
  cases ns <;> rfl⟩
/-- a script, told or made -/
inductive IsScr : Val → List Int → Prop where
  | scr {ns : List Int} : IsScr (.scr (ns.map .int)) ns
  | lst {ns : List Int} : IsScr (.lst (ns.map .int)) ns
theorem IsScr.len {sv : Val} {ns : List Int} (h : IsScr sv ns) : IsF (biV .len) [sv] (.int ((ns.length : Nat) : Int)) := by
  cases h with
  | scr =>
    refine ⟨?_⟩
    show Res.ok (Val.int (((ns.map Val.int).length : Nat) : Int)) = _
    rw [List.length_map]
  | lst =>
    refine ⟨?_⟩
    show Res.ok (Val.int (((ns.map Val.int).length : Nat) : Int)) = _
    rw [List.length_map]
theorem IsScr.idx {sv : Val} {ns : List Int} (h : IsScr sv ns) {k : Nat} {v : Val} (hk : (ns.map Val.int)[k]? = some v) : Is2 idxV sv (.int ((k : Nat) : Int)) v := by
  have key : optR (atI (ns.map Val.int) ((k : Nat) : Int)) = .ok v := by
    have hl : k < (ns.map Val.int).length := by
      apply Classical.byContradiction
      intro q
      rw [List.getElem?_eq_none (by omega)] at hk
      cases hk
    unfold atI
    rw [ixN_nat hl]
    show optR (ns.map Val.int)[k]? = _
    rw [hk]
    rfl
  cases h with
  | scr => exact ⟨key⟩
  | lst => exact ⟨key⟩
theorem IsScr.nil {sv : Val} {ns : List Int} (h : IsScr sv ns) : Is2 (cmpV .eq) sv (.lst []) (.bool ns.isEmpty) := by
  cases h with
  | scr => exact c_eqS
  | lst =>
    refine ⟨?_⟩
    have e : (Val.lst (ns.map .int)).lay 60 = true := lay_ints id 59 ns
    show (if (Val.lst (ns.map .int)).lay 60 && (Val.lst []).lay 60 then _ else _) = _
    rw [e]
    cases ns <;> rfl
theorem cell_is {sv : Val} {ns : List Int} {k : Nat} (hs : IsScr sv ns := by first | assumption | exact IsScr.scr | exact IsScr.lst) : IsF F_law_cell [sv, .int (k : Int)] (.int (cellI ns k)) := by
  refine fun_is rfl ?_
  unfold cellI
  by_cases h : k < ns.length
  · rw [if_pos h]
    refine t_ifT ?_ (t_ret ?_)
    · (repeat' (first | exact hs.len | (refine c_ltT ?_; omega) | exact w_int | exact w_bool | exact w_non | exact w_str | exact w_glob | exact w_nil | exact w_no | exact w_var ⟨rfl⟩ | exact w_own ⟨rfl⟩ | exact w_own2 ⟨rfl⟩ | exact w_opt0 | exact w_opt1 | exact w_sl_tup | exact w_sl_lst | apply w_cons | apply w_idx | apply w_cmp | apply w_bin | apply w_b1 | refine' w_b2 ?_ ?_ rfl ?_ | apply w_call | apply w_neg | apply w_tup | apply w_lst | apply w_not | apply w_and | apply w_or | apply w_ife | refine' fun i hi => ⟨_, rfl, ?_⟩ | refine' fun (_ : Eq (α := Bool) _ _) => ?_ | apply w_chain | apply w_rng | apply w_rev | apply w_seq | apply w_yes | apply w_slice | apply w_range1 | refine' w_comp ?_ ?_ | refine' w_compF ?_ ?_ | exact Nat.le_of_ble_eq_true rfl | exact Lad.cap (by assumption) | exact i_tab (by assumption) | exact i_row (by assumption) | (apply i_tab; (first | assumption | solve_by_elim only [*, lt_of_range, lt_of_filt, All.lt, Lad.el, Lad.cl, Rul.lt])) | (apply i_row; (first | assumption | solve_by_elim only [*, lt_of_range, lt_of_filt, All.lt, Lad.el, Lad.cl, Rul.lt])) | exact l_tab | exact l_row | exact it_row | exact c_neN | exact c_eqN | exact c_ltN | exact c_leN | exact c_ne _ _ | exact c_eq _ _ | exact f_any _ _ | exact f_all _ _ | exact l_tup | exact l_lst | exact l_scr | exact f_isiT | exact c_le | exact c_lt | exact c_gt | exact c_ge | exact b_add | exact b_sub | exact f_max | exact f_lstR | exact f_tup | exact f_lst | exact it_tab | exact w_it_tup | exact w_it_lst | refine' And.intro ?_ ?_))
    · (repeat' (first | exact hs.idx (getS h) | exact w_int | exact w_bool | exact w_non | exact w_str | exact w_glob | exact w_nil | exact w_no | exact w_var ⟨rfl⟩ | exact w_own ⟨rfl⟩ | exact w_own2 ⟨rfl⟩ | exact w_opt0 | exact w_opt1 | exact w_sl_tup | exact w_sl_lst | apply w_cons | apply w_idx | apply w_cmp | apply w_bin | apply w_b1 | refine' w_b2 ?_ ?_ rfl ?_ | apply w_call | apply w_neg | apply w_tup | apply w_lst | apply w_not | apply w_and | apply w_or | apply w_ife | refine' fun i hi => ⟨_, rfl, ?_⟩ | refine' fun (_ : Eq (α := Bool) _ _) => ?_ | apply w_chain | apply w_rng | apply w_rev | apply w_seq | apply w_yes | apply w_slice | apply w_range1 | refine' w_comp ?_ ?_ | refine' w_compF ?_ ?_ | exact Nat.le_of_ble_eq_true rfl | exact Lad.cap (by assumption) | exact i_tab (by assumption) | exact i_row (by assumption) | (apply i_tab; (first | assumption | solve_by_elim only [*, lt_of_range, lt_of_filt, All.lt, Lad.el, Lad.cl, Rul.lt])) | (apply i_row; (first | assumption | solve_by_elim only [*, lt_of_range, lt_of_filt, All.lt, Lad.el, Lad.cl, Rul.lt])) | exact l_tab | exact l_row | exact it_row | exact c_neN | exact c_eqN | exact c_ltN | exact c_leN | exact c_ne _ _ | exact c_eq _ _ | exact f_any _ _ | exact f_all _ _ | exact l_tup | exact l_lst | exact l_scr | exact f_isiT | exact c_le | exact c_lt | exact c_gt | exact c_ge | exact b_add | exact b_sub | exact f_max | exact f_lstR | exact f_tup | exact f_lst | exact it_tab | exact w_it_tup | exact w_it_lst | refine' And.intro ?_ ?_))
  · rw [if_neg h]
    refine t_ifF ?_ ?_
    · (repeat' (first | exact hs.len | (refine c_ltF ?_; omega) | exact w_int | exact w_bool | exact w_non | exact w_str | exact w_glob | exact w_nil | exact w_no | exact w_var ⟨rfl⟩ | exact w_own ⟨rfl⟩ | exact w_own2 ⟨rfl⟩ | exact w_opt0 | exact w_opt1 | exact w_sl_tup | exact w_sl_lst | apply w_cons | apply w_idx | apply w_cmp | apply w_bin | apply w_b1 | refine' w_b2 ?_ ?_ rfl ?_ | apply w_call | apply w_neg | apply w_tup | apply w_lst | apply w_not | apply w_and | apply w_or | apply w_ife | refine' fun i hi => ⟨_, rfl, ?_⟩ | refine' fun (_ : Eq (α := Bool) _ _) => ?_ | apply w_chain | apply w_rng | apply w_rev | apply w_seq | apply w_yes | apply w_slice | apply w_range1 | refine' w_comp ?_ ?_ | refine' w_compF ?_ ?_ | exact Nat.le_of_ble_eq_true rfl | exact Lad.cap (by assumption) | exact i_tab (by assumption) | exact i_row (by assumption) | (apply i_tab; (first | assumption | solve_by_elim only [*, lt_of_range, lt_of_filt, All.lt, Lad.el, Lad.cl, Rul.lt])) | (apply i_row; (first | assumption | solve_by_elim only [*, lt_of_range, lt_of_filt, All.lt, Lad.el, Lad.cl, Rul.lt])) | exact l_tab | exact l_row | exact it_row | exact c_neN | exact c_eqN | exact c_ltN | exact c_leN | exact c_ne _ _ | exact c_eq _ _ | exact f_any _ _ | exact f_all _ _ | exact l_tup | exact l_lst | exact l_scr | exact f_isiT | exact c_le | exact c_lt | exact c_gt | exact c_ge | exact b_add | exact b_sub | exact f_max | exact f_lstR | exact f_tup | exact f_lst | exact it_tab | exact w_it_tup | exact w_it_lst | refine' And.intro ?_ ?_))
    · cases he : ns.isEmpty with
      | true =>
        rw [if_pos rfl]
        refine t_ifT ?_ (t_ret ?_)
        · have := hs.nil
          rw [he] at this
          (repeat' (first | exact Nat.zero_le _ | exact this | exact w_int | exact w_bool | exact w_non | exact w_str | exact w_glob | exact w_nil | exact w_no | exact w_var ⟨rfl⟩ | exact w_own ⟨rfl⟩ | exact w_own2 ⟨rfl⟩ | exact w_opt0 | exact w_opt1 | exact w_sl_tup | exact w_sl_lst | apply w_cons | apply w_idx | apply w_cmp | apply w_bin | apply w_b1 | refine' w_b2 ?_ ?_ rfl ?_ | apply w_call | apply w_neg | apply w_tup | apply w_lst | apply w_not | apply w_and | apply w_or | apply w_ife | refine' fun i hi => ⟨_, rfl, ?_⟩ | refine' fun (_ : Eq (α := Bool) _ _) => ?_ | apply w_chain | apply w_rng | apply w_rev | apply w_seq | apply w_yes | apply w_slice | apply w_range1 | refine' w_comp ?_ ?_ | refine' w_compF ?_ ?_ | exact Nat.le_of_ble_eq_true rfl | exact Lad.cap (by assumption) | exact i_tab (by assumption) | exact i_row (by assumption) | (apply i_tab; (first | assumption | solve_by_elim only [*, lt_of_range, lt_of_filt, All.lt, Lad.el, Lad.cl, Rul.lt])) | (apply i_row; (first | assumption | solve_by_elim only [*, lt_of_range, lt_of_filt, All.lt, Lad.el, Lad.cl, Rul.lt])) | exact l_tab | exact l_row | exact it_row | exact c_neN | exact c_eqN | exact c_ltN | exact c_leN | exact c_ne _ _ | exact c_eq _ _ | exact f_any _ _ | exact f_all _ _ | exact l_tup | exact l_lst | exact l_scr | exact f_isiT | exact c_le | exact c_lt | exact c_gt | exact c_ge | exact b_add | exact b_sub | exact f_max | exact f_lstR | exact f_tup | exact f_lst | exact it_tab | exact w_it_tup | exact w_it_lst | refine' And.intro ?_ ?_))
        · (repeat' (first | exact w_int | exact w_bool | exact w_non | exact w_str | exact w_glob | exact w_nil | exact w_no | exact w_var ⟨rfl⟩ | exact w_own ⟨rfl⟩ | exact w_own2 ⟨rfl⟩ | exact w_opt0 | exact w_opt1 | exact w_sl_tup | exact w_sl_lst | apply w_cons | apply w_idx | apply w_cmp | apply w_bin | apply w_b1 | refine' w_b2 ?_ ?_ rfl ?_ | apply w_call | apply w_neg | apply w_tup | apply w_lst | apply w_not | apply w_and | apply w_or | apply w_ife | refine' fun i hi => ⟨_, rfl, ?_⟩ | refine' fun (_ : Eq (α := Bool) _ _) => ?_ | apply w_chain | apply w_rng | apply w_rev | apply w_seq | apply w_yes | apply w_slice | apply w_range1 | refine' w_comp ?_ ?_ | refine' w_compF ?_ ?_ | exact Nat.le_of_ble_eq_true rfl | exact Lad.cap (by assumption) | exact i_tab (by assumption) | exact i_row (by assumption) | (apply i_tab; (first | assumption | solve_by_elim only [*, lt_of_range, lt_of_filt, All.lt, Lad.el, Lad.cl, Rul.lt])) | (apply i_row; (first | assumption | solve_by_elim only [*, lt_of_range, lt_of_filt, All.lt, Lad.el, Lad.cl, Rul.lt])) | exact l_tab | exact l_row | exact it_row | exact c_neN | exact c_eqN | exact c_ltN | exact c_leN | exact c_ne _ _ | exact c_eq _ _ | exact f_any _ _ | exact f_all _ _ | exact l_tup | exact l_lst | exact l_scr | exact f_isiT | exact c_le | exact c_lt | exact c_gt | exact c_ge | exact b_add | exact b_sub | exact f_max | exact f_lstR | exact f_tup | exact f_lst | exact it_tab | exact w_it_tup | exact w_it_lst | refine' And.intro ?_ ?_))
      | false =>
        rw [if_neg Bool.false_ne_true]
        refine t_ifF ?_ (t_ret ?_)
        · have := hs.nil
          rw [he] at this
          (repeat' (first | exact Nat.zero_le _ | exact this | exact w_int | exact w_bool | exact w_non | exact w_str | exact w_glob | exact w_nil | exact w_no | exact w_var ⟨rfl⟩ | exact w_own ⟨rfl⟩ | exact w_own2 ⟨rfl⟩ | exact w_opt0 | exact w_opt1 | exact w_sl_tup | exact w_sl_lst | apply w_cons | apply w_idx | apply w_cmp | apply w_bin | apply w_b1 | refine' w_b2 ?_ ?_ rfl ?_ | apply w_call | apply w_neg | apply w_tup | apply w_lst | apply w_not | apply w_and | apply w_or | apply w_ife | refine' fun i hi => ⟨_, rfl, ?_⟩ | refine' fun (_ : Eq (α := Bool) _ _) => ?_ | apply w_chain | apply w_rng | apply w_rev | apply w_seq | apply w_yes | apply w_slice | apply w_range1 | refine' w_comp ?_ ?_ | refine' w_compF ?_ ?_ | exact Nat.le_of_ble_eq_true rfl | exact Lad.cap (by assumption) | exact i_tab (by assumption) | exact i_row (by assumption) | (apply i_tab; (first | assumption | solve_by_elim only [*, lt_of_range, lt_of_filt, All.lt, Lad.el, Lad.cl, Rul.lt])) | (apply i_row; (first | assumption | solve_by_elim only [*, lt_of_range, lt_of_filt, All.lt, Lad.el, Lad.cl, Rul.lt])) | exact l_tab | exact l_row | exact it_row | exact c_neN | exact c_eqN | exact c_ltN | exact c_leN | exact c_ne _ _ | exact c_eq _ _ | exact f_any _ _ | exact f_all _ _ | exact l_tup | exact l_lst | exact l_scr | exact f_isiT | exact c_le | exact c_lt | exact c_gt | exact c_ge | exact b_add | exact b_sub | exact f_max | exact f_lstR | exact f_tup | exact f_lst | exact it_tab | exact w_it_tup | exact w_it_lst | refine' And.intro ?_ ?_))
        · have hl : 0 < ns.length := by
            cases ns with
            | nil => cases he
            | cons _ _ => exact Nat.zero_lt_succ _
          have hm : k % ns.length < ns.length := Nat.mod_lt _ hl
          have em : (k : Int).fmod ((ns.length : Nat) : Int) = ((k % ns.length : Nat) : Int) := by
            rw [Int.fmod_eq_emod_of_nonneg _ (by omega)]
            rfl
          refine w_bin (w_bin (w_idx (w_var ⟨rfl⟩) (y := .int ((k % ns.length : Nat) : Int)) ?_ (hs.idx (getS hm))) w_int (b_mulR (by decide))) (w_var ⟨rfl⟩) b_add
          rw [← em]
          exact w_bin (w_var ⟨rfl⟩) (w_b1 (w_var ⟨rfl⟩) hs.len) (b_mod (by omega))
def drawI (ns : List Int) (k : Nat) : Int := ((cellI ns k + 6151 * ((k : Int) + 1)) * 40692).fmod 2147483399
/-- a drawn number below m -/
def pickN (ns : List Int) (k m : Nat) : Nat := (((drawI ns k * drawI ns k + (drawI ns k).fdiv 31).fmod 2147483629).fmod (m : Int)).toNat
theorem pick_lt {ns : List Int} {k m : Nat} (h : 0 < m) : pickN ns k m < m := by
  unfold pickN
  have h1 := Int.fmod_nonneg_of_pos ((drawI ns k * drawI ns k + (drawI ns k).fdiv 31).fmod 2147483629) (b := (m : Int)) (by omega)
  have h2 := Int.fmod_lt_of_pos ((drawI ns k * drawI ns k + (drawI ns k).fdiv 31).fmod 2147483629) (b := (m : Int)) (by omega)
  omega
theorem pick_is {sv : Val} {ns : List Int} {k m : Nat} {kI mI : Int} (hk : kI = (k : Int)) (hmI : mI = (m : Int)) (hm : 0 < m) (hs : IsScr sv ns := by first | assumption | exact IsScr.scr | exact IsScr.lst) : IsF F_law_pick [sv, .int kI, .int mI] (.int ((pickN ns k m : Nat) : Int)) := by
  subst hk
  subst hmI
  have e : ((pickN ns k m : Nat) : Int) = ((drawI ns k * drawI ns k + (drawI ns k).fdiv 31).fmod 2147483629).fmod (m : Int) := by
    unfold pickN
    have h1 := Int.fmod_nonneg_of_pos ((drawI ns k * drawI ns k + (drawI ns k).fdiv 31).fmod 2147483629) (b := (m : Int)) (by omega)
    omega
  rw [e]
  have hd : small64 (drawI ns k) = true := by
    have h1 := Int.fmod_nonneg_of_pos ((cellI ns k + 6151 * ((k : Int) + 1)) * 40692) (b := 2147483399) (by omega)
    have h2 := Int.fmod_lt_of_pos ((cellI ns k + 6151 * ((k : Int) + 1)) * 40692) (b := 2147483399) (by omega)
    unfold small64 drawI
    rw [Bool.and_eq_true, decide_eq_true_eq, decide_eq_true_eq]
    omega
  refine fun_is rfl (t_cons (t_asg (v := .int (drawI ns k)) ?_ rfl) (t_ret ?_))
  · (repeat' (first | exact cell_is (hs := hs) | exact b_mulL (by decide) | exact b_mulR (by decide) | exact b_mod (by decide) | exact w_int | exact w_bool | exact w_non | exact w_str | exact w_glob | exact w_nil | exact w_no | exact w_var ⟨rfl⟩ | exact w_own ⟨rfl⟩ | exact w_own2 ⟨rfl⟩ | exact w_opt0 | exact w_opt1 | exact w_sl_tup | exact w_sl_lst | apply w_cons | apply w_idx | apply w_cmp | apply w_bin | apply w_b1 | refine' w_b2 ?_ ?_ rfl ?_ | apply w_call | apply w_neg | apply w_tup | apply w_lst | apply w_not | apply w_and | apply w_or | apply w_ife | refine' fun i hi => ⟨_, rfl, ?_⟩ | refine' fun (_ : Eq (α := Bool) _ _) => ?_ | apply w_chain | apply w_rng | apply w_rev | apply w_seq | apply w_yes | apply w_slice | apply w_range1 | refine' w_comp ?_ ?_ | refine' w_compF ?_ ?_ | exact Nat.le_of_ble_eq_true rfl | exact Lad.cap (by assumption) | exact i_tab (by assumption) | exact i_row (by assumption) | (apply i_tab; (first | assumption | solve_by_elim only [*, lt_of_range, lt_of_filt, All.lt, Lad.el, Lad.cl, Rul.lt])) | (apply i_row; (first | assumption | solve_by_elim only [*, lt_of_range, lt_of_filt, All.lt, Lad.el, Lad.cl, Rul.lt])) | exact l_tab | exact l_row | exact it_row | exact c_neN | exact c_eqN | exact c_ltN | exact c_leN | exact c_ne _ _ | exact c_eq _ _ | exact f_any _ _ | exact f_all _ _ | exact l_tup | exact l_lst | exact l_scr | exact f_isiT | exact c_le | exact c_lt | exact c_gt | exact c_ge | exact b_add | exact b_sub | exact f_max | exact f_lstR | exact f_tup | exact f_lst | exact it_tab | exact w_it_tup | exact w_it_lst | refine' And.intro ?_ ?_))
  · (repeat' (first | exact b_mulL hd | exact b_mod (by omega) | exact b_fdiv (by decide) | exact w_int | exact w_bool | exact w_non | exact w_str | exact w_glob | exact w_nil | exact w_no | exact w_var ⟨rfl⟩ | exact w_own ⟨rfl⟩ | exact w_own2 ⟨rfl⟩ | exact w_opt0 | exact w_opt1 | exact w_sl_tup | exact w_sl_lst | apply w_cons | apply w_idx | apply w_cmp | apply w_bin | apply w_b1 | refine' w_b2 ?_ ?_ rfl ?_ | apply w_call | apply w_neg | apply w_tup | apply w_lst | apply w_not | apply w_and | apply w_or | apply w_ife | refine' fun i hi => ⟨_, rfl, ?_⟩ | refine' fun (_ : Eq (α := Bool) _ _) => ?_ | apply w_chain | apply w_rng | apply w_rev | apply w_seq | apply w_yes | apply w_slice | apply w_range1 | refine' w_comp ?_ ?_ | refine' w_compF ?_ ?_ | exact Nat.le_of_ble_eq_true rfl | exact Lad.cap (by assumption) | exact i_tab (by assumption) | exact i_row (by assumption) | (apply i_tab; (first | assumption | solve_by_elim only [*, lt_of_range, lt_of_filt, All.lt, Lad.el, Lad.cl, Rul.lt])) | (apply i_row; (first | assumption | solve_by_elim only [*, lt_of_range, lt_of_filt, All.lt, Lad.el, Lad.cl, Rul.lt])) | exact l_tab | exact l_row | exact it_row | exact c_neN | exact c_eqN | exact c_ltN | exact c_leN | exact c_ne _ _ | exact c_eq _ _ | exact f_any _ _ | exact f_all _ _ | exact l_tup | exact l_lst | exact l_scr | exact f_isiT | exact c_le | exact c_lt | exact c_gt | exact c_ge | exact b_add | exact b_sub | exact f_max | exact f_lstR | exact f_tup | exact f_lst | exact it_tab | exact w_it_tup | exact w_it_lst | refine' And.intro ?_ ?_))
def gOf (t : List (List Nat)) (a b : Nat) : Nat := (t.getD a []).getD b 0
def lstT (n : Nat) (g : Nat → Nat → Nat) : Val := .lst ((List.range n).map fun a => .lst ((List.range n).map fun b => .int ((g a b : Nat) : Int)))
def chainT (n : Nat) : List (List Nat) := (List.range n).map fun a => (List.range n).map fun b => max a b
def coupT (t u : List (List Nat)) : List (List Nat) := (List.range (t.length * u.length)).map fun a => (List.range (t.length * u.length)).map fun b => gOf t (a / u.length) (b / u.length) * u.length + gOf u (a % u.length) (b % u.length)
def sideT (n : Nat) : List (List Nat) := (List.range (n + 2)).map fun a => (List.range (n + 2)).map fun b => if a = 0 ∨ b = 0 ∨ a = b then max a b else n + 1
def bases : List (List (List Nat)) := [chainT 1, chainT 2, chainT 3, chainT 4, chainT 5, coupT (chainT 2) (chainT 2), coupT (chainT 2) (chainT 3), coupT (chainT 2) (chainT 4), sideT 0, sideT 1, sideT 2, sideT 3, sideT 4, coupT (chainT 2) (coupT (chainT 2) (chainT 2)), [[0, 1, 2, 3, 4], [1, 1, 2, 4, 4], [2, 2, 2, 4, 4], [3, 4, 4, 3, 4], [4, 4, 4, 4, 4]]]
def baseV (t : List (List Nat)) : Val := lstT t.length (gOf t)
theorem ch1 : IsF F_law_chain [.int 1] (baseV (chainT 1)) := ⟨rfl⟩
theorem ch2 : IsF F_law_chain [.int 2] (baseV (chainT 2)) := ⟨rfl⟩
theorem ch3 : IsF F_law_chain [.int 3] (baseV (chainT 3)) := ⟨rfl⟩
theorem ch4 : IsF F_law_chain [.int 4] (baseV (chainT 4)) := ⟨rfl⟩
theorem ch5 : IsF F_law_chain [.int 5] (baseV (chainT 5)) := ⟨rfl⟩
end Lh
set_option Elab.async false
set_option linter.all false
set_option maxRecDepth 100000
set_option maxHeartbeats 4000000
namespace Lh
open PySem (Str)
theorem co22 : IsF F_law_couples [baseV (chainT 2), baseV (chainT 2)] (baseV (coupT (chainT 2) (chainT 2))) := ⟨rfl⟩
theorem co23 : IsF F_law_couples [baseV (chainT 2), baseV (chainT 3)] (baseV (coupT (chainT 2) (chainT 3))) := ⟨rfl⟩
theorem co24 : IsF F_law_couples [baseV (chainT 2), baseV (chainT 4)] (baseV (coupT (chainT 2) (chainT 4))) := ⟨rfl⟩
theorem co222 : IsF F_law_couples [baseV (chainT 2), baseV (coupT (chainT 2) (chainT 2))] (baseV (coupT (chainT 2) (coupT (chainT 2) (chainT 2)))) := ⟨rfl⟩
theorem si0 : IsF F_law_side_by_side [.int 0] (baseV (sideT 0)) := ⟨rfl⟩
theorem si1 : IsF F_law_side_by_side [.int 1] (baseV (sideT 1)) := ⟨rfl⟩
theorem si2 : IsF F_law_side_by_side [.int 2] (baseV (sideT 2)) := ⟨rfl⟩
theorem si3 : IsF F_law_side_by_side [.int 3] (baseV (sideT 3)) := ⟨rfl⟩
theorem si4 : IsF F_law_side_by_side [.int 4] (baseV (sideT 4)) := ⟨rfl⟩
theorem base_is {sv : Val} {ns : List Int} {at' : Nat} (hs : IsScr sv ns := by first | assumption | exact IsScr.scr | exact IsScr.lst) : ∃ t ∈ bases, IsF F_law_base [sv, .int (at' : Int)] (baseV t) := by
  have h9 := pick_lt (ns := ns) (k := at') (m := 9) (by decide)
  obtain ⟨p, hp⟩ : ∃ p, p = pickN ns at' 9 := ⟨_, rfl⟩
  have h5 := pick_lt (ns := ns) (k := at' + 1) (m := 5) (by decide)
  obtain ⟨q, hq⟩ : ∃ q, q = pickN ns (at' + 1) 5 := ⟨_, rfl⟩
  have h3 := pick_lt (ns := ns) (k := at' + 1) (m := 3) (by decide)
  obtain ⟨r, hr⟩ : ∃ r, r = pickN ns (at' + 1) 3 := ⟨_, rfl⟩
  rw [← hp] at h9
  rw [← hq] at h5
  rw [← hr] at h3
  have P9 : IsF F_law_pick [sv, .int (at' : Int), .int 9] (.int (p : Int)) := by
    rw [hp]
    exact pick_is rfl rfl (by decide)
  have P5 : IsF F_law_pick [sv, .int ((at' : Int) + 1), .int 5] (.int (q : Int)) := by
    rw [hq]
    exact pick_is rfl rfl (by decide)
  have P3 : IsF F_law_pick [sv, .int ((at' : Int) + 1), .int 3] (.int (r : Int)) := by
    rw [hr]
    exact pick_is rfl rfl (by decide)
  by_cases a3 : p < 3
  · have fin : ∀ (t : List (List Nat)), IsF F_law_chain [.int (1 + (q : Int))] (baseV t) → IsF F_law_base [sv, .int (at' : Int)] (baseV t) := fun t ht => by
      refine fun_is rfl (t_cons (t_asg (v := .int (p : Int)) ?_ rfl) (t_ifT ?_ (t_ret ?_)))
      · (repeat' (first | exact P9 | exact w_int | exact w_bool | exact w_non | exact w_str | exact w_glob | exact w_nil | exact w_no | exact w_var ⟨rfl⟩ | exact w_own ⟨rfl⟩ | exact w_own2 ⟨rfl⟩ | exact w_opt0 | exact w_opt1 | exact w_sl_tup | exact w_sl_lst | apply w_cons | apply w_idx | apply w_cmp | apply w_bin | apply w_b1 | refine' w_b2 ?_ ?_ rfl ?_ | apply w_call | apply w_neg | apply w_tup | apply w_lst | apply w_not | apply w_and | apply w_or | apply w_ife | refine' fun i hi => ⟨_, rfl, ?_⟩ | refine' fun (_ : Eq (α := Bool) _ _) => ?_ | apply w_chain | apply w_rng | apply w_rev | apply w_seq | apply w_yes | apply w_slice | apply w_range1 | refine' w_comp ?_ ?_ | refine' w_compF ?_ ?_ | exact Nat.le_of_ble_eq_true rfl | exact Lad.cap (by assumption) | exact i_tab (by assumption) | exact i_row (by assumption) | (apply i_tab; (first | assumption | solve_by_elim only [*, lt_of_range, lt_of_filt, All.lt, Lad.el, Lad.cl, Rul.lt])) | (apply i_row; (first | assumption | solve_by_elim only [*, lt_of_range, lt_of_filt, All.lt, Lad.el, Lad.cl, Rul.lt])) | exact l_tab | exact l_row | exact it_row | exact c_neN | exact c_eqN | exact c_ltN | exact c_leN | exact c_ne _ _ | exact c_eq _ _ | exact f_any _ _ | exact f_all _ _ | exact l_tup | exact l_lst | exact l_scr | exact f_isiT | exact c_le | exact c_lt | exact c_gt | exact c_ge | exact b_add | exact b_sub | exact f_max | exact f_lstR | exact f_tup | exact f_lst | exact it_tab | exact w_it_tup | exact w_it_lst | refine' And.intro ?_ ?_))
      · (repeat' (first | exact c_ltT (by omega) | exact w_int | exact w_bool | exact w_non | exact w_str | exact w_glob | exact w_nil | exact w_no | exact w_var ⟨rfl⟩ | exact w_own ⟨rfl⟩ | exact w_own2 ⟨rfl⟩ | exact w_opt0 | exact w_opt1 | exact w_sl_tup | exact w_sl_lst | apply w_cons | apply w_idx | apply w_cmp | apply w_bin | apply w_b1 | refine' w_b2 ?_ ?_ rfl ?_ | apply w_call | apply w_neg | apply w_tup | apply w_lst | apply w_not | apply w_and | apply w_or | apply w_ife | refine' fun i hi => ⟨_, rfl, ?_⟩ | refine' fun (_ : Eq (α := Bool) _ _) => ?_ | apply w_chain | apply w_rng | apply w_rev | apply w_seq | apply w_yes | apply w_slice | apply w_range1 | refine' w_comp ?_ ?_ | refine' w_compF ?_ ?_ | exact Nat.le_of_ble_eq_true rfl | exact Lad.cap (by assumption) | exact i_tab (by assumption) | exact i_row (by assumption) | (apply i_tab; (first | assumption | solve_by_elim only [*, lt_of_range, lt_of_filt, All.lt, Lad.el, Lad.cl, Rul.lt])) | (apply i_row; (first | assumption | solve_by_elim only [*, lt_of_range, lt_of_filt, All.lt, Lad.el, Lad.cl, Rul.lt])) | exact l_tab | exact l_row | exact it_row | exact c_neN | exact c_eqN | exact c_ltN | exact c_leN | exact c_ne _ _ | exact c_eq _ _ | exact f_any _ _ | exact f_all _ _ | exact l_tup | exact l_lst | exact l_scr | exact f_isiT | exact c_le | exact c_lt | exact c_gt | exact c_ge | exact b_add | exact b_sub | exact f_max | exact f_lstR | exact f_tup | exact f_lst | exact it_tab | exact w_it_tup | exact w_it_lst | refine' And.intro ?_ ?_))
      · (repeat' (first | exact P5 | exact ht | exact w_int | exact w_bool | exact w_non | exact w_str | exact w_glob | exact w_nil | exact w_no | exact w_var ⟨rfl⟩ | exact w_own ⟨rfl⟩ | exact w_own2 ⟨rfl⟩ | exact w_opt0 | exact w_opt1 | exact w_sl_tup | exact w_sl_lst | apply w_cons | apply w_idx | apply w_cmp | apply w_bin | apply w_b1 | refine' w_b2 ?_ ?_ rfl ?_ | apply w_call | apply w_neg | apply w_tup | apply w_lst | apply w_not | apply w_and | apply w_or | apply w_ife | refine' fun i hi => ⟨_, rfl, ?_⟩ | refine' fun (_ : Eq (α := Bool) _ _) => ?_ | apply w_chain | apply w_rng | apply w_rev | apply w_seq | apply w_yes | apply w_slice | apply w_range1 | refine' w_comp ?_ ?_ | refine' w_compF ?_ ?_ | exact Nat.le_of_ble_eq_true rfl | exact Lad.cap (by assumption) | exact i_tab (by assumption) | exact i_row (by assumption) | (apply i_tab; (first | assumption | solve_by_elim only [*, lt_of_range, lt_of_filt, All.lt, Lad.el, Lad.cl, Rul.lt])) | (apply i_row; (first | assumption | solve_by_elim only [*, lt_of_range, lt_of_filt, All.lt, Lad.el, Lad.cl, Rul.lt])) | exact l_tab | exact l_row | exact it_row | exact c_neN | exact c_eqN | exact c_ltN | exact c_leN | exact c_ne _ _ | exact c_eq _ _ | exact f_any _ _ | exact f_all _ _ | exact l_tup | exact l_lst | exact l_scr | exact f_isiT | exact c_le | exact c_lt | exact c_gt | exact c_ge | exact b_add | exact b_sub | exact f_max | exact f_lstR | exact f_tup | exact f_lst | exact it_tab | exact w_it_tup | exact w_it_lst | refine' And.intro ?_ ?_))
    match q, h5, fin with
    | 0, _, fin => exact ⟨chainT 1, by decide, fin _ ch1⟩
    | 1, _, fin => exact ⟨chainT 2, by decide, fin _ ch2⟩
    | 2, _, fin => exact ⟨chainT 3, by decide, fin _ ch3⟩
    | 3, _, fin => exact ⟨chainT 4, by decide, fin _ ch4⟩
    | 4, _, fin => exact ⟨chainT 5, by decide, fin _ ch5⟩
  by_cases a5 : p < 5
  · have fin : ∀ (c : Int) (u t : List (List Nat)), Is2 idxV (.lst [.int 2, .int 3, .int 4]) (.int (r : Int)) (.int c) → IsF F_law_chain [.int c] (baseV u) → IsF F_law_couples [baseV (chainT 2), baseV u] (baseV t) → IsF F_law_base [sv, .int (at' : Int)] (baseV t) := fun c u t h1 h2 h3 => by
      refine fun_is rfl (t_cons (t_asg (v := .int (p : Int)) ?_ rfl) (t_ifF ?_ (t_ifT ?_ (t_ret ?_))))
      · (repeat' (first | exact P9 | exact w_int | exact w_bool | exact w_non | exact w_str | exact w_glob | exact w_nil | exact w_no | exact w_var ⟨rfl⟩ | exact w_own ⟨rfl⟩ | exact w_own2 ⟨rfl⟩ | exact w_opt0 | exact w_opt1 | exact w_sl_tup | exact w_sl_lst | apply w_cons | apply w_idx | apply w_cmp | apply w_bin | apply w_b1 | refine' w_b2 ?_ ?_ rfl ?_ | apply w_call | apply w_neg | apply w_tup | apply w_lst | apply w_not | apply w_and | apply w_or | apply w_ife | refine' fun i hi => ⟨_, rfl, ?_⟩ | refine' fun (_ : Eq (α := Bool) _ _) => ?_ | apply w_chain | apply w_rng | apply w_rev | apply w_seq | apply w_yes | apply w_slice | apply w_range1 | refine' w_comp ?_ ?_ | refine' w_compF ?_ ?_ | exact Nat.le_of_ble_eq_true rfl | exact Lad.cap (by assumption) | exact i_tab (by assumption) | exact i_row (by assumption) | (apply i_tab; (first | assumption | solve_by_elim only [*, lt_of_range, lt_of_filt, All.lt, Lad.el, Lad.cl, Rul.lt])) | (apply i_row; (first | assumption | solve_by_elim only [*, lt_of_range, lt_of_filt, All.lt, Lad.el, Lad.cl, Rul.lt])) | exact l_tab | exact l_row | exact it_row | exact c_neN | exact c_eqN | exact c_ltN | exact c_leN | exact c_ne _ _ | exact c_eq _ _ | exact f_any _ _ | exact f_all _ _ | exact l_tup | exact l_lst | exact l_scr | exact f_isiT | exact c_le | exact c_lt | exact c_gt | exact c_ge | exact b_add | exact b_sub | exact f_max | exact f_lstR | exact f_tup | exact f_lst | exact it_tab | exact w_it_tup | exact w_it_lst | refine' And.intro ?_ ?_))
      · (repeat' (first | exact c_ltF (by omega) | exact w_int | exact w_bool | exact w_non | exact w_str | exact w_glob | exact w_nil | exact w_no | exact w_var ⟨rfl⟩ | exact w_own ⟨rfl⟩ | exact w_own2 ⟨rfl⟩ | exact w_opt0 | exact w_opt1 | exact w_sl_tup | exact w_sl_lst | apply w_cons | apply w_idx | apply w_cmp | apply w_bin | apply w_b1 | refine' w_b2 ?_ ?_ rfl ?_ | apply w_call | apply w_neg | apply w_tup | apply w_lst | apply w_not | apply w_and | apply w_or | apply w_ife | refine' fun i hi => ⟨_, rfl, ?_⟩ | refine' fun (_ : Eq (α := Bool) _ _) => ?_ | apply w_chain | apply w_rng | apply w_rev | apply w_seq | apply w_yes | apply w_slice | apply w_range1 | refine' w_comp ?_ ?_ | refine' w_compF ?_ ?_ | exact Nat.le_of_ble_eq_true rfl | exact Lad.cap (by assumption) | exact i_tab (by assumption) | exact i_row (by assumption) | (apply i_tab; (first | assumption | solve_by_elim only [*, lt_of_range, lt_of_filt, All.lt, Lad.el, Lad.cl, Rul.lt])) | (apply i_row; (first | assumption | solve_by_elim only [*, lt_of_range, lt_of_filt, All.lt, Lad.el, Lad.cl, Rul.lt])) | exact l_tab | exact l_row | exact it_row | exact c_neN | exact c_eqN | exact c_ltN | exact c_leN | exact c_ne _ _ | exact c_eq _ _ | exact f_any _ _ | exact f_all _ _ | exact l_tup | exact l_lst | exact l_scr | exact f_isiT | exact c_le | exact c_lt | exact c_gt | exact c_ge | exact b_add | exact b_sub | exact f_max | exact f_lstR | exact f_tup | exact f_lst | exact it_tab | exact w_it_tup | exact w_it_lst | refine' And.intro ?_ ?_))
      · (repeat' (first | exact c_ltT (by omega) | exact w_int | exact w_bool | exact w_non | exact w_str | exact w_glob | exact w_nil | exact w_no | exact w_var ⟨rfl⟩ | exact w_own ⟨rfl⟩ | exact w_own2 ⟨rfl⟩ | exact w_opt0 | exact w_opt1 | exact w_sl_tup | exact w_sl_lst | apply w_cons | apply w_idx | apply w_cmp | apply w_bin | apply w_b1 | refine' w_b2 ?_ ?_ rfl ?_ | apply w_call | apply w_neg | apply w_tup | apply w_lst | apply w_not | apply w_and | apply w_or | apply w_ife | refine' fun i hi => ⟨_, rfl, ?_⟩ | refine' fun (_ : Eq (α := Bool) _ _) => ?_ | apply w_chain | apply w_rng | apply w_rev | apply w_seq | apply w_yes | apply w_slice | apply w_range1 | refine' w_comp ?_ ?_ | refine' w_compF ?_ ?_ | exact Nat.le_of_ble_eq_true rfl | exact Lad.cap (by assumption) | exact i_tab (by assumption) | exact i_row (by assumption) | (apply i_tab; (first | assumption | solve_by_elim only [*, lt_of_range, lt_of_filt, All.lt, Lad.el, Lad.cl, Rul.lt])) | (apply i_row; (first | assumption | solve_by_elim only [*, lt_of_range, lt_of_filt, All.lt, Lad.el, Lad.cl, Rul.lt])) | exact l_tab | exact l_row | exact it_row | exact c_neN | exact c_eqN | exact c_ltN | exact c_leN | exact c_ne _ _ | exact c_eq _ _ | exact f_any _ _ | exact f_all _ _ | exact l_tup | exact l_lst | exact l_scr | exact f_isiT | exact c_le | exact c_lt | exact c_gt | exact c_ge | exact b_add | exact b_sub | exact f_max | exact f_lstR | exact f_tup | exact f_lst | exact it_tab | exact w_it_tup | exact w_it_lst | refine' And.intro ?_ ?_))
      · (repeat' (first | exact P3 | exact ch2 | exact h1 | exact h2 | exact h3 | exact (by decide : 3 ≤ cap) | exact w_int | exact w_bool | exact w_non | exact w_str | exact w_glob | exact w_nil | exact w_no | exact w_var ⟨rfl⟩ | exact w_own ⟨rfl⟩ | exact w_own2 ⟨rfl⟩ | exact w_opt0 | exact w_opt1 | exact w_sl_tup | exact w_sl_lst | apply w_cons | apply w_idx | apply w_cmp | apply w_bin | apply w_b1 | refine' w_b2 ?_ ?_ rfl ?_ | apply w_call | apply w_neg | apply w_tup | apply w_lst | apply w_not | apply w_and | apply w_or | apply w_ife | refine' fun i hi => ⟨_, rfl, ?_⟩ | refine' fun (_ : Eq (α := Bool) _ _) => ?_ | apply w_chain | apply w_rng | apply w_rev | apply w_seq | apply w_yes | apply w_slice | apply w_range1 | refine' w_comp ?_ ?_ | refine' w_compF ?_ ?_ | exact Nat.le_of_ble_eq_true rfl | exact Lad.cap (by assumption) | exact i_tab (by assumption) | exact i_row (by assumption) | (apply i_tab; (first | assumption | solve_by_elim only [*, lt_of_range, lt_of_filt, All.lt, Lad.el, Lad.cl, Rul.lt])) | (apply i_row; (first | assumption | solve_by_elim only [*, lt_of_range, lt_of_filt, All.lt, Lad.el, Lad.cl, Rul.lt])) | exact l_tab | exact l_row | exact it_row | exact c_neN | exact c_eqN | exact c_ltN | exact c_leN | exact c_ne _ _ | exact c_eq _ _ | exact f_any _ _ | exact f_all _ _ | exact l_tup | exact l_lst | exact l_scr | exact f_isiT | exact c_le | exact c_lt | exact c_gt | exact c_ge | exact b_add | exact b_sub | exact f_max | exact f_lstR | exact f_tup | exact f_lst | exact it_tab | exact w_it_tup | exact w_it_lst | refine' And.intro ?_ ?_))
    match r, h3, fin with
    | 0, _, fin => exact ⟨_, by decide, fin 2 _ _ ⟨rfl⟩ ch2 co22⟩
    | 1, _, fin => exact ⟨_, by decide, fin 3 _ _ ⟨rfl⟩ ch3 co23⟩
    | 2, _, fin => exact ⟨_, by decide, fin 4 _ _ ⟨rfl⟩ ch4 co24⟩
  by_cases a7 : p < 7
  · have fin : ∀ (t : List (List Nat)), IsF F_law_side_by_side [.int (q : Int)] (baseV t) → IsF F_law_base [sv, .int (at' : Int)] (baseV t) := fun t ht => by
      refine fun_is rfl (t_cons (t_asg (v := .int (p : Int)) ?_ rfl) (t_ifF ?_ (t_ifF ?_ (t_ifT ?_ (t_ret ?_)))))
      · (repeat' (first | exact P9 | exact w_int | exact w_bool | exact w_non | exact w_str | exact w_glob | exact w_nil | exact w_no | exact w_var ⟨rfl⟩ | exact w_own ⟨rfl⟩ | exact w_own2 ⟨rfl⟩ | exact w_opt0 | exact w_opt1 | exact w_sl_tup | exact w_sl_lst | apply w_cons | apply w_idx | apply w_cmp | apply w_bin | apply w_b1 | refine' w_b2 ?_ ?_ rfl ?_ | apply w_call | apply w_neg | apply w_tup | apply w_lst | apply w_not | apply w_and | apply w_or | apply w_ife | refine' fun i hi => ⟨_, rfl, ?_⟩ | refine' fun (_ : Eq (α := Bool) _ _) => ?_ | apply w_chain | apply w_rng | apply w_rev | apply w_seq | apply w_yes | apply w_slice | apply w_range1 | refine' w_comp ?_ ?_ | refine' w_compF ?_ ?_ | exact Nat.le_of_ble_eq_true rfl | exact Lad.cap (by assumption) | exact i_tab (by assumption) | exact i_row (by assumption) | (apply i_tab; (first | assumption | solve_by_elim only [*, lt_of_range, lt_of_filt, All.lt, Lad.el, Lad.cl, Rul.lt])) | (apply i_row; (first | assumption | solve_by_elim only [*, lt_of_range, lt_of_filt, All.lt, Lad.el, Lad.cl, Rul.lt])) | exact l_tab | exact l_row | exact it_row | exact c_neN | exact c_eqN | exact c_ltN | exact c_leN | exact c_ne _ _ | exact c_eq _ _ | exact f_any _ _ | exact f_all _ _ | exact l_tup | exact l_lst | exact l_scr | exact f_isiT | exact c_le | exact c_lt | exact c_gt | exact c_ge | exact b_add | exact b_sub | exact f_max | exact f_lstR | exact f_tup | exact f_lst | exact it_tab | exact w_it_tup | exact w_it_lst | refine' And.intro ?_ ?_))
      · (repeat' (first | exact c_ltF (by omega) | exact w_int | exact w_bool | exact w_non | exact w_str | exact w_glob | exact w_nil | exact w_no | exact w_var ⟨rfl⟩ | exact w_own ⟨rfl⟩ | exact w_own2 ⟨rfl⟩ | exact w_opt0 | exact w_opt1 | exact w_sl_tup | exact w_sl_lst | apply w_cons | apply w_idx | apply w_cmp | apply w_bin | apply w_b1 | refine' w_b2 ?_ ?_ rfl ?_ | apply w_call | apply w_neg | apply w_tup | apply w_lst | apply w_not | apply w_and | apply w_or | apply w_ife | refine' fun i hi => ⟨_, rfl, ?_⟩ | refine' fun (_ : Eq (α := Bool) _ _) => ?_ | apply w_chain | apply w_rng | apply w_rev | apply w_seq | apply w_yes | apply w_slice | apply w_range1 | refine' w_comp ?_ ?_ | refine' w_compF ?_ ?_ | exact Nat.le_of_ble_eq_true rfl | exact Lad.cap (by assumption) | exact i_tab (by assumption) | exact i_row (by assumption) | (apply i_tab; (first | assumption | solve_by_elim only [*, lt_of_range, lt_of_filt, All.lt, Lad.el, Lad.cl, Rul.lt])) | (apply i_row; (first | assumption | solve_by_elim only [*, lt_of_range, lt_of_filt, All.lt, Lad.el, Lad.cl, Rul.lt])) | exact l_tab | exact l_row | exact it_row | exact c_neN | exact c_eqN | exact c_ltN | exact c_leN | exact c_ne _ _ | exact c_eq _ _ | exact f_any _ _ | exact f_all _ _ | exact l_tup | exact l_lst | exact l_scr | exact f_isiT | exact c_le | exact c_lt | exact c_gt | exact c_ge | exact b_add | exact b_sub | exact f_max | exact f_lstR | exact f_tup | exact f_lst | exact it_tab | exact w_it_tup | exact w_it_lst | refine' And.intro ?_ ?_))
      · (repeat' (first | exact c_ltF (by omega) | exact w_int | exact w_bool | exact w_non | exact w_str | exact w_glob | exact w_nil | exact w_no | exact w_var ⟨rfl⟩ | exact w_own ⟨rfl⟩ | exact w_own2 ⟨rfl⟩ | exact w_opt0 | exact w_opt1 | exact w_sl_tup | exact w_sl_lst | apply w_cons | apply w_idx | apply w_cmp | apply w_bin | apply w_b1 | refine' w_b2 ?_ ?_ rfl ?_ | apply w_call | apply w_neg | apply w_tup | apply w_lst | apply w_not | apply w_and | apply w_or | apply w_ife | refine' fun i hi => ⟨_, rfl, ?_⟩ | refine' fun (_ : Eq (α := Bool) _ _) => ?_ | apply w_chain | apply w_rng | apply w_rev | apply w_seq | apply w_yes | apply w_slice | apply w_range1 | refine' w_comp ?_ ?_ | refine' w_compF ?_ ?_ | exact Nat.le_of_ble_eq_true rfl | exact Lad.cap (by assumption) | exact i_tab (by assumption) | exact i_row (by assumption) | (apply i_tab; (first | assumption | solve_by_elim only [*, lt_of_range, lt_of_filt, All.lt, Lad.el, Lad.cl, Rul.lt])) | (apply i_row; (first | assumption | solve_by_elim only [*, lt_of_range, lt_of_filt, All.lt, Lad.el, Lad.cl, Rul.lt])) | exact l_tab | exact l_row | exact it_row | exact c_neN | exact c_eqN | exact c_ltN | exact c_leN | exact c_ne _ _ | exact c_eq _ _ | exact f_any _ _ | exact f_all _ _ | exact l_tup | exact l_lst | exact l_scr | exact f_isiT | exact c_le | exact c_lt | exact c_gt | exact c_ge | exact b_add | exact b_sub | exact f_max | exact f_lstR | exact f_tup | exact f_lst | exact it_tab | exact w_it_tup | exact w_it_lst | refine' And.intro ?_ ?_))
      · (repeat' (first | exact c_ltT (by omega) | exact w_int | exact w_bool | exact w_non | exact w_str | exact w_glob | exact w_nil | exact w_no | exact w_var ⟨rfl⟩ | exact w_own ⟨rfl⟩ | exact w_own2 ⟨rfl⟩ | exact w_opt0 | exact w_opt1 | exact w_sl_tup | exact w_sl_lst | apply w_cons | apply w_idx | apply w_cmp | apply w_bin | apply w_b1 | refine' w_b2 ?_ ?_ rfl ?_ | apply w_call | apply w_neg | apply w_tup | apply w_lst | apply w_not | apply w_and | apply w_or | apply w_ife | refine' fun i hi => ⟨_, rfl, ?_⟩ | refine' fun (_ : Eq (α := Bool) _ _) => ?_ | apply w_chain | apply w_rng | apply w_rev | apply w_seq | apply w_yes | apply w_slice | apply w_range1 | refine' w_comp ?_ ?_ | refine' w_compF ?_ ?_ | exact Nat.le_of_ble_eq_true rfl | exact Lad.cap (by assumption) | exact i_tab (by assumption) | exact i_row (by assumption) | (apply i_tab; (first | assumption | solve_by_elim only [*, lt_of_range, lt_of_filt, All.lt, Lad.el, Lad.cl, Rul.lt])) | (apply i_row; (first | assumption | solve_by_elim only [*, lt_of_range, lt_of_filt, All.lt, Lad.el, Lad.cl, Rul.lt])) | exact l_tab | exact l_row | exact it_row | exact c_neN | exact c_eqN | exact c_ltN | exact c_leN | exact c_ne _ _ | exact c_eq _ _ | exact f_any _ _ | exact f_all _ _ | exact l_tup | exact l_lst | exact l_scr | exact f_isiT | exact c_le | exact c_lt | exact c_gt | exact c_ge | exact b_add | exact b_sub | exact f_max | exact f_lstR | exact f_tup | exact f_lst | exact it_tab | exact w_it_tup | exact w_it_lst | refine' And.intro ?_ ?_))
      · (repeat' (first | exact P5 | exact ht | exact w_int | exact w_bool | exact w_non | exact w_str | exact w_glob | exact w_nil | exact w_no | exact w_var ⟨rfl⟩ | exact w_own ⟨rfl⟩ | exact w_own2 ⟨rfl⟩ | exact w_opt0 | exact w_opt1 | exact w_sl_tup | exact w_sl_lst | apply w_cons | apply w_idx | apply w_cmp | apply w_bin | apply w_b1 | refine' w_b2 ?_ ?_ rfl ?_ | apply w_call | apply w_neg | apply w_tup | apply w_lst | apply w_not | apply w_and | apply w_or | apply w_ife | refine' fun i hi => ⟨_, rfl, ?_⟩ | refine' fun (_ : Eq (α := Bool) _ _) => ?_ | apply w_chain | apply w_rng | apply w_rev | apply w_seq | apply w_yes | apply w_slice | apply w_range1 | refine' w_comp ?_ ?_ | refine' w_compF ?_ ?_ | exact Nat.le_of_ble_eq_true rfl | exact Lad.cap (by assumption) | exact i_tab (by assumption) | exact i_row (by assumption) | (apply i_tab; (first | assumption | solve_by_elim only [*, lt_of_range, lt_of_filt, All.lt, Lad.el, Lad.cl, Rul.lt])) | (apply i_row; (first | assumption | solve_by_elim only [*, lt_of_range, lt_of_filt, All.lt, Lad.el, Lad.cl, Rul.lt])) | exact l_tab | exact l_row | exact it_row | exact c_neN | exact c_eqN | exact c_ltN | exact c_leN | exact c_ne _ _ | exact c_eq _ _ | exact f_any _ _ | exact f_all _ _ | exact l_tup | exact l_lst | exact l_scr | exact f_isiT | exact c_le | exact c_lt | exact c_gt | exact c_ge | exact b_add | exact b_sub | exact f_max | exact f_lstR | exact f_tup | exact f_lst | exact it_tab | exact w_it_tup | exact w_it_lst | refine' And.intro ?_ ?_))
    match q, h5, fin with
    | 0, _, fin => exact ⟨sideT 0, by decide, fin _ si0⟩
    | 1, _, fin => exact ⟨sideT 1, by decide, fin _ si1⟩
    | 2, _, fin => exact ⟨sideT 2, by decide, fin _ si2⟩
    | 3, _, fin => exact ⟨sideT 3, by decide, fin _ si3⟩
    | 4, _, fin => exact ⟨sideT 4, by decide, fin _ si4⟩
  by_cases a8 : p = 7
  · refine ⟨coupT (chainT 2) (coupT (chainT 2) (chainT 2)), by decide, ?_⟩
    refine fun_is rfl (t_cons (t_asg (v := .int (p : Int)) ?_ rfl) (t_ifF ?_ (t_ifF ?_ (t_ifF ?_ (t_ifT ?_ (t_ret ?_))))))
    · (repeat' (first | exact P9 | exact w_int | exact w_bool | exact w_non | exact w_str | exact w_glob | exact w_nil | exact w_no | exact w_var ⟨rfl⟩ | exact w_own ⟨rfl⟩ | exact w_own2 ⟨rfl⟩ | exact w_opt0 | exact w_opt1 | exact w_sl_tup | exact w_sl_lst | apply w_cons | apply w_idx | apply w_cmp | apply w_bin | apply w_b1 | refine' w_b2 ?_ ?_ rfl ?_ | apply w_call | apply w_neg | apply w_tup | apply w_lst | apply w_not | apply w_and | apply w_or | apply w_ife | refine' fun i hi => ⟨_, rfl, ?_⟩ | refine' fun (_ : Eq (α := Bool) _ _) => ?_ | apply w_chain | apply w_rng | apply w_rev | apply w_seq | apply w_yes | apply w_slice | apply w_range1 | refine' w_comp ?_ ?_ | refine' w_compF ?_ ?_ | exact Nat.le_of_ble_eq_true rfl | exact Lad.cap (by assumption) | exact i_tab (by assumption) | exact i_row (by assumption) | (apply i_tab; (first | assumption | solve_by_elim only [*, lt_of_range, lt_of_filt, All.lt, Lad.el, Lad.cl, Rul.lt])) | (apply i_row; (first | assumption | solve_by_elim only [*, lt_of_range, lt_of_filt, All.lt, Lad.el, Lad.cl, Rul.lt])) | exact l_tab | exact l_row | exact it_row | exact c_neN | exact c_eqN | exact c_ltN | exact c_leN | exact c_ne _ _ | exact c_eq _ _ | exact f_any _ _ | exact f_all _ _ | exact l_tup | exact l_lst | exact l_scr | exact f_isiT | exact c_le | exact c_lt | exact c_gt | exact c_ge | exact b_add | exact b_sub | exact f_max | exact f_lstR | exact f_tup | exact f_lst | exact it_tab | exact w_it_tup | exact w_it_lst | refine' And.intro ?_ ?_))
    · (repeat' (first | exact c_ltF (by omega) | exact w_int | exact w_bool | exact w_non | exact w_str | exact w_glob | exact w_nil | exact w_no | exact w_var ⟨rfl⟩ | exact w_own ⟨rfl⟩ | exact w_own2 ⟨rfl⟩ | exact w_opt0 | exact w_opt1 | exact w_sl_tup | exact w_sl_lst | apply w_cons | apply w_idx | apply w_cmp | apply w_bin | apply w_b1 | refine' w_b2 ?_ ?_ rfl ?_ | apply w_call | apply w_neg | apply w_tup | apply w_lst | apply w_not | apply w_and | apply w_or | apply w_ife | refine' fun i hi => ⟨_, rfl, ?_⟩ | refine' fun (_ : Eq (α := Bool) _ _) => ?_ | apply w_chain | apply w_rng | apply w_rev | apply w_seq | apply w_yes | apply w_slice | apply w_range1 | refine' w_comp ?_ ?_ | refine' w_compF ?_ ?_ | exact Nat.le_of_ble_eq_true rfl | exact Lad.cap (by assumption) | exact i_tab (by assumption) | exact i_row (by assumption) | (apply i_tab; (first | assumption | solve_by_elim only [*, lt_of_range, lt_of_filt, All.lt, Lad.el, Lad.cl, Rul.lt])) | (apply i_row; (first | assumption | solve_by_elim only [*, lt_of_range, lt_of_filt, All.lt, Lad.el, Lad.cl, Rul.lt])) | exact l_tab | exact l_row | exact it_row | exact c_neN | exact c_eqN | exact c_ltN | exact c_leN | exact c_ne _ _ | exact c_eq _ _ | exact f_any _ _ | exact f_all _ _ | exact l_tup | exact l_lst | exact l_scr | exact f_isiT | exact c_le | exact c_lt | exact c_gt | exact c_ge | exact b_add | exact b_sub | exact f_max | exact f_lstR | exact f_tup | exact f_lst | exact it_tab | exact w_it_tup | exact w_it_lst | refine' And.intro ?_ ?_))
    · (repeat' (first | exact c_ltF (by omega) | exact w_int | exact w_bool | exact w_non | exact w_str | exact w_glob | exact w_nil | exact w_no | exact w_var ⟨rfl⟩ | exact w_own ⟨rfl⟩ | exact w_own2 ⟨rfl⟩ | exact w_opt0 | exact w_opt1 | exact w_sl_tup | exact w_sl_lst | apply w_cons | apply w_idx | apply w_cmp | apply w_bin | apply w_b1 | refine' w_b2 ?_ ?_ rfl ?_ | apply w_call | apply w_neg | apply w_tup | apply w_lst | apply w_not | apply w_and | apply w_or | apply w_ife | refine' fun i hi => ⟨_, rfl, ?_⟩ | refine' fun (_ : Eq (α := Bool) _ _) => ?_ | apply w_chain | apply w_rng | apply w_rev | apply w_seq | apply w_yes | apply w_slice | apply w_range1 | refine' w_comp ?_ ?_ | refine' w_compF ?_ ?_ | exact Nat.le_of_ble_eq_true rfl | exact Lad.cap (by assumption) | exact i_tab (by assumption) | exact i_row (by assumption) | (apply i_tab; (first | assumption | solve_by_elim only [*, lt_of_range, lt_of_filt, All.lt, Lad.el, Lad.cl, Rul.lt])) | (apply i_row; (first | assumption | solve_by_elim only [*, lt_of_range, lt_of_filt, All.lt, Lad.el, Lad.cl, Rul.lt])) | exact l_tab | exact l_row | exact it_row | exact c_neN | exact c_eqN | exact c_ltN | exact c_leN | exact c_ne _ _ | exact c_eq _ _ | exact f_any _ _ | exact f_all _ _ | exact l_tup | exact l_lst | exact l_scr | exact f_isiT | exact c_le | exact c_lt | exact c_gt | exact c_ge | exact b_add | exact b_sub | exact f_max | exact f_lstR | exact f_tup | exact f_lst | exact it_tab | exact w_it_tup | exact w_it_lst | refine' And.intro ?_ ?_))
    · (repeat' (first | exact c_ltF (by omega) | exact w_int | exact w_bool | exact w_non | exact w_str | exact w_glob | exact w_nil | exact w_no | exact w_var ⟨rfl⟩ | exact w_own ⟨rfl⟩ | exact w_own2 ⟨rfl⟩ | exact w_opt0 | exact w_opt1 | exact w_sl_tup | exact w_sl_lst | apply w_cons | apply w_idx | apply w_cmp | apply w_bin | apply w_b1 | refine' w_b2 ?_ ?_ rfl ?_ | apply w_call | apply w_neg | apply w_tup | apply w_lst | apply w_not | apply w_and | apply w_or | apply w_ife | refine' fun i hi => ⟨_, rfl, ?_⟩ | refine' fun (_ : Eq (α := Bool) _ _) => ?_ | apply w_chain | apply w_rng | apply w_rev | apply w_seq | apply w_yes | apply w_slice | apply w_range1 | refine' w_comp ?_ ?_ | refine' w_compF ?_ ?_ | exact Nat.le_of_ble_eq_true rfl | exact Lad.cap (by assumption) | exact i_tab (by assumption) | exact i_row (by assumption) | (apply i_tab; (first | assumption | solve_by_elim only [*, lt_of_range, lt_of_filt, All.lt, Lad.el, Lad.cl, Rul.lt])) | (apply i_row; (first | assumption | solve_by_elim only [*, lt_of_range, lt_of_filt, All.lt, Lad.el, Lad.cl, Rul.lt])) | exact l_tab | exact l_row | exact it_row | exact c_neN | exact c_eqN | exact c_ltN | exact c_leN | exact c_ne _ _ | exact c_eq _ _ | exact f_any _ _ | exact f_all _ _ | exact l_tup | exact l_lst | exact l_scr | exact f_isiT | exact c_le | exact c_lt | exact c_gt | exact c_ge | exact b_add | exact b_sub | exact f_max | exact f_lstR | exact f_tup | exact f_lst | exact it_tab | exact w_it_tup | exact w_it_lst | refine' And.intro ?_ ?_))
    · (repeat' (first | exact c_eqT (by omega) | exact w_int | exact w_bool | exact w_non | exact w_str | exact w_glob | exact w_nil | exact w_no | exact w_var ⟨rfl⟩ | exact w_own ⟨rfl⟩ | exact w_own2 ⟨rfl⟩ | exact w_opt0 | exact w_opt1 | exact w_sl_tup | exact w_sl_lst | apply w_cons | apply w_idx | apply w_cmp | apply w_bin | apply w_b1 | refine' w_b2 ?_ ?_ rfl ?_ | apply w_call | apply w_neg | apply w_tup | apply w_lst | apply w_not | apply w_and | apply w_or | apply w_ife | refine' fun i hi => ⟨_, rfl, ?_⟩ | refine' fun (_ : Eq (α := Bool) _ _) => ?_ | apply w_chain | apply w_rng | apply w_rev | apply w_seq | apply w_yes | apply w_slice | apply w_range1 | refine' w_comp ?_ ?_ | refine' w_compF ?_ ?_ | exact Nat.le_of_ble_eq_true rfl | exact Lad.cap (by assumption) | exact i_tab (by assumption) | exact i_row (by assumption) | (apply i_tab; (first | assumption | solve_by_elim only [*, lt_of_range, lt_of_filt, All.lt, Lad.el, Lad.cl, Rul.lt])) | (apply i_row; (first | assumption | solve_by_elim only [*, lt_of_range, lt_of_filt, All.lt, Lad.el, Lad.cl, Rul.lt])) | exact l_tab | exact l_row | exact it_row | exact c_neN | exact c_eqN | exact c_ltN | exact c_leN | exact c_ne _ _ | exact c_eq _ _ | exact f_any _ _ | exact f_all _ _ | exact l_tup | exact l_lst | exact l_scr | exact f_isiT | exact c_le | exact c_lt | exact c_gt | exact c_ge | exact b_add | exact b_sub | exact f_max | exact f_lstR | exact f_tup | exact f_lst | exact it_tab | exact w_it_tup | exact w_it_lst | refine' And.intro ?_ ?_))
    · (repeat' (first | exact ch2 | exact co22 | exact co222 | exact w_int | exact w_bool | exact w_non | exact w_str | exact w_glob | exact w_nil | exact w_no | exact w_var ⟨rfl⟩ | exact w_own ⟨rfl⟩ | exact w_own2 ⟨rfl⟩ | exact w_opt0 | exact w_opt1 | exact w_sl_tup | exact w_sl_lst | apply w_cons | apply w_idx | apply w_cmp | apply w_bin | apply w_b1 | refine' w_b2 ?_ ?_ rfl ?_ | apply w_call | apply w_neg | apply w_tup | apply w_lst | apply w_not | apply w_and | apply w_or | apply w_ife | refine' fun i hi => ⟨_, rfl, ?_⟩ | refine' fun (_ : Eq (α := Bool) _ _) => ?_ | apply w_chain | apply w_rng | apply w_rev | apply w_seq | apply w_yes | apply w_slice | apply w_range1 | refine' w_comp ?_ ?_ | refine' w_compF ?_ ?_ | exact Nat.le_of_ble_eq_true rfl | exact Lad.cap (by assumption) | exact i_tab (by assumption) | exact i_row (by assumption) | (apply i_tab; (first | assumption | solve_by_elim only [*, lt_of_range, lt_of_filt, All.lt, Lad.el, Lad.cl, Rul.lt])) | (apply i_row; (first | assumption | solve_by_elim only [*, lt_of_range, lt_of_filt, All.lt, Lad.el, Lad.cl, Rul.lt])) | exact l_tab | exact l_row | exact it_row | exact c_neN | exact c_eqN | exact c_ltN | exact c_leN | exact c_ne _ _ | exact c_eq _ _ | exact f_any _ _ | exact f_all _ _ | exact l_tup | exact l_lst | exact l_scr | exact f_isiT | exact c_le | exact c_lt | exact c_gt | exact c_ge | exact b_add | exact b_sub | exact f_max | exact f_lstR | exact f_tup | exact f_lst | exact it_tab | exact w_it_tup | exact w_it_lst | refine' And.intro ?_ ?_))
  · refine ⟨[[0, 1, 2, 3, 4], [1, 1, 2, 4, 4], [2, 2, 2, 4, 4], [3, 4, 4, 3, 4], [4, 4, 4, 4, 4]], by decide, ?_⟩
    refine fun_is rfl (t_cons (t_asg (v := .int (p : Int)) ?_ rfl) (t_ifF ?_ (t_ifF ?_ (t_ifF ?_ (t_ifF ?_ (t_cons (t_asg (v := baseV [[0, 1, 2, 3, 4], [1, 1, 2, 4, 4], [2, 2, 2, 4, 4], [3, 4, 4, 3, 4], [4, 4, 4, 4, 4]]) ⟨rfl⟩ rfl) (t_ret (w_var ⟨rfl⟩))))))))
    · (repeat' (first | exact P9 | exact w_int | exact w_bool | exact w_non | exact w_str | exact w_glob | exact w_nil | exact w_no | exact w_var ⟨rfl⟩ | exact w_own ⟨rfl⟩ | exact w_own2 ⟨rfl⟩ | exact w_opt0 | exact w_opt1 | exact w_sl_tup | exact w_sl_lst | apply w_cons | apply w_idx | apply w_cmp | apply w_bin | apply w_b1 | refine' w_b2 ?_ ?_ rfl ?_ | apply w_call | apply w_neg | apply w_tup | apply w_lst | apply w_not | apply w_and | apply w_or | apply w_ife | refine' fun i hi => ⟨_, rfl, ?_⟩ | refine' fun (_ : Eq (α := Bool) _ _) => ?_ | apply w_chain | apply w_rng | apply w_rev | apply w_seq | apply w_yes | apply w_slice | apply w_range1 | refine' w_comp ?_ ?_ | refine' w_compF ?_ ?_ | exact Nat.le_of_ble_eq_true rfl | exact Lad.cap (by assumption) | exact i_tab (by assumption) | exact i_row (by assumption) | (apply i_tab; (first | assumption | solve_by_elim only [*, lt_of_range, lt_of_filt, All.lt, Lad.el, Lad.cl, Rul.lt])) | (apply i_row; (first | assumption | solve_by_elim only [*, lt_of_range, lt_of_filt, All.lt, Lad.el, Lad.cl, Rul.lt])) | exact l_tab | exact l_row | exact it_row | exact c_neN | exact c_eqN | exact c_ltN | exact c_leN | exact c_ne _ _ | exact c_eq _ _ | exact f_any _ _ | exact f_all _ _ | exact l_tup | exact l_lst | exact l_scr | exact f_isiT | exact c_le | exact c_lt | exact c_gt | exact c_ge | exact b_add | exact b_sub | exact f_max | exact f_lstR | exact f_tup | exact f_lst | exact it_tab | exact w_it_tup | exact w_it_lst | refine' And.intro ?_ ?_))
    · (repeat' (first | exact c_ltF (by omega) | exact w_int | exact w_bool | exact w_non | exact w_str | exact w_glob | exact w_nil | exact w_no | exact w_var ⟨rfl⟩ | exact w_own ⟨rfl⟩ | exact w_own2 ⟨rfl⟩ | exact w_opt0 | exact w_opt1 | exact w_sl_tup | exact w_sl_lst | apply w_cons | apply w_idx | apply w_cmp | apply w_bin | apply w_b1 | refine' w_b2 ?_ ?_ rfl ?_ | apply w_call | apply w_neg | apply w_tup | apply w_lst | apply w_not | apply w_and | apply w_or | apply w_ife | refine' fun i hi => ⟨_, rfl, ?_⟩ | refine' fun (_ : Eq (α := Bool) _ _) => ?_ | apply w_chain | apply w_rng | apply w_rev | apply w_seq | apply w_yes | apply w_slice | apply w_range1 | refine' w_comp ?_ ?_ | refine' w_compF ?_ ?_ | exact Nat.le_of_ble_eq_true rfl | exact Lad.cap (by assumption) | exact i_tab (by assumption) | exact i_row (by assumption) | (apply i_tab; (first | assumption | solve_by_elim only [*, lt_of_range, lt_of_filt, All.lt, Lad.el, Lad.cl, Rul.lt])) | (apply i_row; (first | assumption | solve_by_elim only [*, lt_of_range, lt_of_filt, All.lt, Lad.el, Lad.cl, Rul.lt])) | exact l_tab | exact l_row | exact it_row | exact c_neN | exact c_eqN | exact c_ltN | exact c_leN | exact c_ne _ _ | exact c_eq _ _ | exact f_any _ _ | exact f_all _ _ | exact l_tup | exact l_lst | exact l_scr | exact f_isiT | exact c_le | exact c_lt | exact c_gt | exact c_ge | exact b_add | exact b_sub | exact f_max | exact f_lstR | exact f_tup | exact f_lst | exact it_tab | exact w_it_tup | exact w_it_lst | refine' And.intro ?_ ?_))
    · (repeat' (first | exact c_ltF (by omega) | exact w_int | exact w_bool | exact w_non | exact w_str | exact w_glob | exact w_nil | exact w_no | exact w_var ⟨rfl⟩ | exact w_own ⟨rfl⟩ | exact w_own2 ⟨rfl⟩ | exact w_opt0 | exact w_opt1 | exact w_sl_tup | exact w_sl_lst | apply w_cons | apply w_idx | apply w_cmp | apply w_bin | apply w_b1 | refine' w_b2 ?_ ?_ rfl ?_ | apply w_call | apply w_neg | apply w_tup | apply w_lst | apply w_not | apply w_and | apply w_or | apply w_ife | refine' fun i hi => ⟨_, rfl, ?_⟩ | refine' fun (_ : Eq (α := Bool) _ _) => ?_ | apply w_chain | apply w_rng | apply w_rev | apply w_seq | apply w_yes | apply w_slice | apply w_range1 | refine' w_comp ?_ ?_ | refine' w_compF ?_ ?_ | exact Nat.le_of_ble_eq_true rfl | exact Lad.cap (by assumption) | exact i_tab (by assumption) | exact i_row (by assumption) | (apply i_tab; (first | assumption | solve_by_elim only [*, lt_of_range, lt_of_filt, All.lt, Lad.el, Lad.cl, Rul.lt])) | (apply i_row; (first | assumption | solve_by_elim only [*, lt_of_range, lt_of_filt, All.lt, Lad.el, Lad.cl, Rul.lt])) | exact l_tab | exact l_row | exact it_row | exact c_neN | exact c_eqN | exact c_ltN | exact c_leN | exact c_ne _ _ | exact c_eq _ _ | exact f_any _ _ | exact f_all _ _ | exact l_tup | exact l_lst | exact l_scr | exact f_isiT | exact c_le | exact c_lt | exact c_gt | exact c_ge | exact b_add | exact b_sub | exact f_max | exact f_lstR | exact f_tup | exact f_lst | exact it_tab | exact w_it_tup | exact w_it_lst | refine' And.intro ?_ ?_))
    · (repeat' (first | exact c_ltF (by omega) | exact w_int | exact w_bool | exact w_non | exact w_str | exact w_glob | exact w_nil | exact w_no | exact w_var ⟨rfl⟩ | exact w_own ⟨rfl⟩ | exact w_own2 ⟨rfl⟩ | exact w_opt0 | exact w_opt1 | exact w_sl_tup | exact w_sl_lst | apply w_cons | apply w_idx | apply w_cmp | apply w_bin | apply w_b1 | refine' w_b2 ?_ ?_ rfl ?_ | apply w_call | apply w_neg | apply w_tup | apply w_lst | apply w_not | apply w_and | apply w_or | apply w_ife | refine' fun i hi => ⟨_, rfl, ?_⟩ | refine' fun (_ : Eq (α := Bool) _ _) => ?_ | apply w_chain | apply w_rng | apply w_rev | apply w_seq | apply w_yes | apply w_slice | apply w_range1 | refine' w_comp ?_ ?_ | refine' w_compF ?_ ?_ | exact Nat.le_of_ble_eq_true rfl | exact Lad.cap (by assumption) | exact i_tab (by assumption) | exact i_row (by assumption) | (apply i_tab; (first | assumption | solve_by_elim only [*, lt_of_range, lt_of_filt, All.lt, Lad.el, Lad.cl, Rul.lt])) | (apply i_row; (first | assumption | solve_by_elim only [*, lt_of_range, lt_of_filt, All.lt, Lad.el, Lad.cl, Rul.lt])) | exact l_tab | exact l_row | exact it_row | exact c_neN | exact c_eqN | exact c_ltN | exact c_leN | exact c_ne _ _ | exact c_eq _ _ | exact f_any _ _ | exact f_all _ _ | exact l_tup | exact l_lst | exact l_scr | exact f_isiT | exact c_le | exact c_lt | exact c_gt | exact c_ge | exact b_add | exact b_sub | exact f_max | exact f_lstR | exact f_tup | exact f_lst | exact it_tab | exact w_it_tup | exact w_it_lst | refine' And.intro ?_ ?_))
    · (repeat' (first | exact c_eqF (by omega) | exact w_int | exact w_bool | exact w_non | exact w_str | exact w_glob | exact w_nil | exact w_no | exact w_var ⟨rfl⟩ | exact w_own ⟨rfl⟩ | exact w_own2 ⟨rfl⟩ | exact w_opt0 | exact w_opt1 | exact w_sl_tup | exact w_sl_lst | apply w_cons | apply w_idx | apply w_cmp | apply w_bin | apply w_b1 | refine' w_b2 ?_ ?_ rfl ?_ | apply w_call | apply w_neg | apply w_tup | apply w_lst | apply w_not | apply w_and | apply w_or | apply w_ife | refine' fun i hi => ⟨_, rfl, ?_⟩ | refine' fun (_ : Eq (α := Bool) _ _) => ?_ | apply w_chain | apply w_rng | apply w_rev | apply w_seq | apply w_yes | apply w_slice | apply w_range1 | refine' w_comp ?_ ?_ | refine' w_compF ?_ ?_ | exact Nat.le_of_ble_eq_true rfl | exact Lad.cap (by assumption) | exact i_tab (by assumption) | exact i_row (by assumption) | (apply i_tab; (first | assumption | solve_by_elim only [*, lt_of_range, lt_of_filt, All.lt, Lad.el, Lad.cl, Rul.lt])) | (apply i_row; (first | assumption | solve_by_elim only [*, lt_of_range, lt_of_filt, All.lt, Lad.el, Lad.cl, Rul.lt])) | exact l_tab | exact l_row | exact it_row | exact c_neN | exact c_eqN | exact c_ltN | exact c_leN | exact c_ne _ _ | exact c_eq _ _ | exact f_any _ _ | exact f_all _ _ | exact l_tup | exact l_lst | exact l_scr | exact f_isiT | exact c_le | exact c_lt | exact c_gt | exact c_ge | exact b_add | exact b_sub | exact f_max | exact f_lstR | exact f_tup | exact f_lst | exact it_tab | exact w_it_tup | exact w_it_lst | refine' And.intro ?_ ?_))
/-- a join table: what the ladder is asked to be -/
structure LadP (n : Nat) (g : Nat → Nat → Nat) : Prop where
  cl : ∀ a, a < n → ∀ b, b < n → g a b < n
  idem : ∀ a, a < n → g a a = a
  comm : ∀ a, a < n → ∀ b, b < n → g a b = g b a
  assoc : ∀ a, a < n → ∀ b, b < n → ∀ c, c < n → g (g a b) c = g a (g b c)
  ident : ∃ e, e < n ∧ ∀ b, b < n → g e b = b
theorem of_ladB {n : Nat} {g : Nat → Nat → Nat} (cl : ∀ a, a < n → ∀ b, b < n → g a b < n) (h : ladB n g = true) : LadP n g := by
  unfold ladB idemB commB assocB identB at h
  simp only [Bool.and_eq_true, Bool.not_eq_true', List.any_eq_false, List.all_eq_true, List.any_eq_true, List.mem_range, decide_eq_true_eq, ne_eq, Decidable.not_not, decide_not, Bool.not_eq_true, decide_eq_false_iff_not, Bool.not_eq_false'] at h
  obtain ⟨h1, h2, h3, e, he, h4⟩ := h
  refine ⟨cl, fun a ha => ?_, fun a ha b hb => ?_, fun a ha b hb c hc => ?_, e, he, fun b hb => ?_⟩
  · have := h1 a ha
    omega
  · have := h2 a ha b hb
    omega
  · have := h3 a ha b hb c hc
    omega
  · have := h4 b hb
    omega
def closedB (n : Nat) (g : Nat → Nat → Nat) : Bool := (List.range n).all fun a => (List.range n).all fun b => decide (g a b < n)
theorem bases_ok : (bases.all fun t => decide (1 ≤ t.length) && (decide (t.length ≤ 8) && (closedB t.length (gOf t) && ladB t.length (gOf t)))) = true := by decide +kernel
theorem base_lad {t : List (List Nat)} (h : t ∈ bases) : 1 ≤ t.length ∧ t.length ≤ 8 ∧ LadP t.length (gOf t) := by
  have := List.all_eq_true.mp bases_ok t h
  simp only [Bool.and_eq_true, decide_eq_true_eq] at this
  obtain ⟨h1, h2, h3, h4⟩ := this
  refine ⟨h1, h2, of_ladB (fun a ha b hb => ?_) h4⟩
  have h5 := List.all_eq_true.mp (List.all_eq_true.mp h3 a (List.mem_range.mpr ha)) b (List.mem_range.mpr hb)
  exact of_decide_eq_true h5
end Lh
set_option Elab.async false
set_option linter.all false
set_option maxRecDepth 100000
set_option maxHeartbeats 4000000
namespace Lh
open L2 (ixN)
open PySem (Str)
def ivs (l : List Nat) : List Val := l.map fun i => .int ((i : Nat) : Int)
theorem erase_ints : ∀ (L : List Nat) (k : Nat), (ivs L).eraseIdx k = ivs (L.eraseIdx k)
  | [], _ => rfl
  | _ :: _, 0 => rfl
  | x :: L, k + 1 => congrArg (Val.int ((x : Nat) : Int) :: ·) (erase_ints L k)
theorem popAt_nat {L : List Nat} {k : Nat} (h : k < L.length) : popAt (ivs L) (some ((k : Nat) : Int)) = some (.int ((L[k] : Nat) : Int), ivs (L.eraseIdx k)) := by
  show (ixN (ivs L).length (k : Int)).bind _ = _
  have hl : (ivs L).length = L.length := List.length_map _
  rw [hl, ixN_nat h]
  show ((ivs L)[k]?).map _ = _
  have e : (ivs L)[k]? = some (.int ((L[k] : Nat) : Int)) := by
    unfold ivs
    rw [List.getElem?_map, List.getElem?_eq_getElem h]
    rfl
  rw [e]
  show some (_, (ivs L).eraseIdx k) = _
  rw [erase_ints]
theorem perm_erase {L : List Nat} {k : Nat} (h : k < L.length) : (L[k] :: L.eraseIdx k).Perm L := by
  induction L generalizing k with
  | nil => exact absurd h (Nat.not_lt_zero _)
  | cons x L ih =>
    cases k with
    | zero => exact .refl _
    | succ k =>
      have h' : k < L.length := by simpa using h
      show (L[k] :: x :: L.eraseIdx k).Perm (x :: L)
      exact (List.Perm.swap x _ _).trans ((ih h').cons x)
theorem popAll_perm {F : Val → List Val → Option (Val × List Val)} {φ : Nat → Val} : ∀ (l L : List Nat), l.length = L.length → (∀ i ∈ l, ∀ L' : List Nat, 0 < L'.length → L'.length ≤ L.length → ∃ k, k < L'.length ∧ F (φ i) (ivs L') = popAt (ivs L') (some ((k : Nat) : Int))) →
    ∃ nm : List Nat, popAll F (l.map φ) (ivs L) = some (ivs nm, []) ∧ nm.Perm L
  | [], L, hl, _ => by
    cases L with
    | nil => exact ⟨[], rfl, .refl _⟩
    | cons _ _ => exact nomatch hl
  | i :: l, L, hl, h => by
    have hlen : 0 < L.length := by
      rw [← hl]
      exact Nat.zero_lt_succ _
    obtain ⟨k, hk, hF⟩ := h i List.mem_cons_self L hlen (Nat.le_refl _)
    have hel : (L.eraseIdx k).length = L.length - 1 := by rw [List.length_eraseIdx, if_pos hk]
    have hl2 : l.length = (L.eraseIdx k).length := by
      rw [hel, ← hl]
      rfl
    obtain ⟨nm, h1, h2⟩ := popAll_perm l (L.eraseIdx k) hl2 fun j hj L' h0 hle => h j (List.mem_cons_of_mem _ hj) L' h0 (by omega)
    refine ⟨L[k] :: nm, ?_, (h2.cons _).trans (perm_erase hk)⟩
    show popAll F (φ i :: l.map φ) (ivs L) = _
    unfold popAll
    rw [hF, popAt_nat hk]
    show (popAll F (l.map φ) (ivs (L.eraseIdx k))).map _ = _
    rw [h1]
    rfl
def popF' (i j tg : Nat) (e : E) (ρ : Env) (x : Val) (vs : List Val) : Option (Val × List Val) :=
  match evE e ((((ρ.set i .non).set tg .non).set j (.own vs)).set tg (.val x)) with
  | .ok (.int k) => popAt vs (some k)
  | _ => none
theorem popF_int {i j tg : Nat} {e : E} {ρ : Env} {x : Val} {vs : List Val} {k : Int} (h : IsE e ((((ρ.set i .non).set tg .non).set j (.own vs)).set tg (.val x)) (.int k)) : popF' i j tg e ρ x vs = popAt vs (some k) := by
  unfold popF'
  rw [h.h]
theorem t_compPop {n i j tg : Nat} {e : E} {src : Src} {ρ ρ1 : Env} {vs : List Val} {items : List Val} {p : List Val × List Val} (h1 : IsV ρ j (.own vs)) (h2 : IsSrc src (eraseM ρ) items)
    (h3 : popAll (popF' i j tg e ρ) items vs = some p) (h4 : ¬ (i = j ∨ tg = j)) (he : (ρ.set j (.own p.2)).set i (.val (.lst p.1)) = ρ1) : Is1 n (.compPop i j e tg src) ρ (.nx ρ1) := ⟨by
  show asO (ownOf ρ[j]?) _ = _
  rw [h1.h]
  show (evSrc src (eraseM ρ)).out ρ _ = _
  rw [h2.h]
  show asO (popAll (popF' i j tg e ρ) items vs) _ = _
  rw [h3, ← he]
  exact if_neg h4⟩
def upd2 (g : Nat → Nat → Nat) (p q v : Nat) : Nat → Nat → Nat := fun a b => if a = p ∧ b = q then v else g a b
def tab2 (n : Nat) (g : Nat → Nat → Nat) : List (List Val) := (List.range n).map fun a => (List.range n).map fun b => .int ((g a b : Nat) : Int)
theorem range_set {α : Type} {n p : Nat} {f : Nat → α} {v : α} (h : p < n) : ((List.range n).map f).set p v = (List.range n).map fun a => if a = p then v else f a := by
  refine List.ext_getElem? fun j => ?_
  rw [List.getElem?_set, List.getElem?_map, List.getElem?_map, List.length_map, List.length_range]
  by_cases hj : p = j
  · subst hj
    rw [if_pos rfl, if_pos h, List.getElem?_range h]
    show _ = some (if p = p then v else f p)
    rw [if_pos rfl]
  · rw [if_neg hj]
    by_cases hl : j < n
    · rw [List.getElem?_range hl]
      show _ = some (if j = p then v else f j)
      rw [if_neg fun z => hj z.symm]
      rfl
    · rw [List.getElem?_eq_none (by rw [List.length_range]; omega)]
      rfl
theorem tab2_set {n p q v : Nat} {g : Nat → Nat → Nat} (hp : p < n) (hq : q < n) : (tab2 n g).set p (((List.range n).map fun b => Val.int ((g p b : Nat) : Int)).set q (.int ((v : Nat) : Int))) = tab2 n (upd2 g p q v) := by
  unfold tab2
  rw [range_set hp, range_set hq]
  refine List.map_congr_left fun a _ => ?_
  by_cases ha : a = p
  · subst ha
    rw [if_pos rfl]
    refine List.map_congr_left fun b _ => ?_
    unfold upd2
    by_cases hb : b = q
    · rw [if_pos hb, if_pos ⟨rfl, hb⟩]
    · rw [if_neg hb, if_neg fun z => hb z.2]
  · rw [if_neg ha]
    refine List.map_congr_left fun b _ => ?_
    unfold upd2
    rw [if_neg fun z => ha z.1]
/-- a row written -/
def rowW (n : Nat) (nm : Nat → Nat) (v : Nat → Nat → Nat) (g : Nat → Nat → Nat) (a : Nat) : Nat → Nat → Nat := (List.range n).foldl (fun g b => upd2 g (nm a) (nm b) (v a b)) g
def allW (n : Nat) (nm : Nat → Nat) (v : Nat → Nat → Nat) (g : Nat → Nat → Nat) : Nat → Nat → Nat := (List.range n).foldl (fun g a => rowW n nm v g a) g
theorem rowW_out {nm : Nat → Nat} {v : Nat → Nat → Nat} {a p q : Nat} (hp : p ≠ nm a) : ∀ (l : List Nat) (g : Nat → Nat → Nat), (l.foldl (fun g b => upd2 g (nm a) (nm b) (v a b)) g) p q = g p q
  | [], g => rfl
  | b :: l, g => by
    rw [List.foldl_cons, rowW_out hp l]
    unfold upd2
    rw [if_neg fun z => hp z.1]
theorem rowW_in {nm : Nat → Nat} {v : Nat → Nat → Nat} {a c : Nat} : ∀ (l : List Nat) (g : Nat → Nat → Nat), (∀ b ∈ l, ∀ b' ∈ l, nm b = nm b' → b = b') → l.Nodup → c ∈ l → (l.foldl (fun g b => upd2 g (nm a) (nm b) (v a b)) g) (nm a) (nm c) = v a c
  | [], g, _, _, h => absurd h List.not_mem_nil
  | b :: l, g, hi, nd, h => by
    obtain ⟨n1, n2⟩ := List.nodup_cons.mp nd
    rw [List.foldl_cons]
    by_cases hc : c ∈ l
    · exact rowW_in l _ (fun x hx y hy => hi x (List.mem_cons_of_mem _ hx) y (List.mem_cons_of_mem _ hy)) n2 hc
    · have e : c = b := (List.mem_cons.mp h).resolve_right hc
      subst e
      have out : ∀ (l : List Nat) (g : Nat → Nat → Nat), (∀ b ∈ l, nm b ≠ nm c) → (l.foldl (fun g b => upd2 g (nm a) (nm b) (v a b)) g) (nm a) (nm c) = g (nm a) (nm c) := by
        intro l
        induction l with
        | nil => exact fun g _ => rfl
        | cons b l ih =>
          intro g hb
          rw [List.foldl_cons, ih _ fun x hx => hb x (List.mem_cons_of_mem _ hx)]
          unfold upd2
          rw [if_neg fun z => hb b List.mem_cons_self z.2.symm]
      rw [out l _ fun b hb z => n1 (by rw [hi c List.mem_cons_self b (List.mem_cons_of_mem _ hb) z.symm]; exact hb)]
      unfold upd2
      rw [if_pos ⟨rfl, rfl⟩]
theorem allW_at {n : Nat} {nm : Nat → Nat} {v : Nat → Nat → Nat} {g : Nat → Nat → Nat} (hi : ∀ a, a < n → ∀ b, b < n → nm a = nm b → a = b) {a b : Nat} (ha : a < n) (hb : b < n) : allW n nm v g (nm a) (nm b) = v a b := by
  have main : ∀ (l : List Nat) (g : Nat → Nat → Nat), (∀ x ∈ l, x < n) → l.Nodup → a ∈ l → (l.foldl (fun g a => rowW n nm v g a) g) (nm a) (nm b) = v a b := by
    intro l
    induction l with
    | nil => exact fun g _ _ h => absurd h List.not_mem_nil
    | cons x l ih =>
      intro g hx nd h
      obtain ⟨n1, n2⟩ := List.nodup_cons.mp nd
      rw [List.foldl_cons]
      by_cases hc : a ∈ l
      · exact ih _ (fun y hy => hx y (List.mem_cons_of_mem _ hy)) n2 hc
      · have e : a = x := (List.mem_cons.mp h).resolve_right hc
        subst e
        have out : ∀ (l : List Nat) (g : Nat → Nat → Nat), (∀ y ∈ l, nm a ≠ nm y) → (l.foldl (fun g a => rowW n nm v g a) g) (nm a) (nm b) = g (nm a) (nm b) := by
          intro l
          induction l with
          | nil => exact fun g _ => rfl
          | cons y l ih2 =>
            intro g hy
            rw [List.foldl_cons, ih2 _ fun z hz => hy z (List.mem_cons_of_mem _ hz)]
            exact rowW_out (hy y List.mem_cons_self) (List.range n) g
        rw [out l _ fun y hy z => n1 (by rw [hi a ha y (hx y (List.mem_cons_of_mem _ hy)) z]; exact hy)]
        exact rowW_in (List.range n) g (fun x hx y hy => hi x (List.mem_range.mp hx) y (List.mem_range.mp hy)) List.nodup_range (List.mem_range.mpr hb)
  exact main (List.range n) g (fun x hx => List.mem_range.mp hx) List.nodup_range (List.mem_range.mpr ha)
/-- a ladder numbered otherwise is one -/
theorem LadP.move {n : Nat} {B g : Nat → Nat → Nat} {nm : Nat → Nat} (h : LadP n B) (hlt : ∀ a, a < n → nm a < n) (hon : ∀ x, x < n → ∃ a, a < n ∧ nm a = x) (hg : ∀ a, a < n → ∀ b, b < n → g (nm a) (nm b) = nm (B a b)) : LadP n g := by
  refine ⟨fun x hx y hy => ?_, fun x hx => ?_, fun x hx y hy => ?_, fun x hx y hy z hz => ?_, ?_⟩
  · obtain ⟨a, ha, rfl⟩ := hon x hx
    obtain ⟨b, hb, rfl⟩ := hon y hy
    rw [hg a ha b hb]
    exact hlt _ (h.cl a ha b hb)
  · obtain ⟨a, ha, rfl⟩ := hon x hx
    rw [hg a ha a ha, h.idem a ha]
  · obtain ⟨a, ha, rfl⟩ := hon x hx
    obtain ⟨b, hb, rfl⟩ := hon y hy
    rw [hg a ha b hb, hg b hb a ha, h.comm a ha b hb]
  · obtain ⟨a, ha, rfl⟩ := hon x hx
    obtain ⟨b, hb, rfl⟩ := hon y hy
    obtain ⟨c, hc, rfl⟩ := hon z hz
    rw [hg a ha b hb, hg b hb c hc, hg _ (h.cl a ha b hb) c hc, hg a ha _ (h.cl b hb c hc), h.assoc a ha b hb c hc]
  · obtain ⟨e, he, h2⟩ := h.ident
    refine ⟨nm e, hlt e he, fun y hy => ?_⟩
    obtain ⟨b, hb, rfl⟩ := hon y hy
    rw [hg e he b hb, h2 b hb]
theorem ints_range {l : List Nat} {n : Nat} (h : l.length = n) : ivs l = (List.range n).map fun i => .int ((l.getD i 0 : Nat) : Int) := by
  subst h
  refine List.ext_getElem? fun j => ?_
  unfold ivs
  rw [List.getElem?_map, List.getElem?_map]
  by_cases hj : j < l.length
  · rw [List.getElem?_range hj, List.getElem?_eq_getElem hj]
    show some (Val.int ((l[j] : Nat) : Int)) = some (Val.int ((l.getD j 0 : Nat) : Int))
    rw [List.getD_eq_getElem?_getD, List.getElem?_eq_getElem hj]
    rfl
  · rw [List.getElem?_eq_none (by omega), List.getElem?_eq_none (by rw [List.length_range]; omega)]
    rfl
theorem b_mulL0 {x : Val} {n : Nat} (h : n ≤ 1000) : Is2 (binV .mul) (.lst [x]) (.int (n : Int)) (.lst (List.replicate n x)) := ⟨by
  have hc : cap = 100000 := rfl
  show (if _ then _ else _) = _
  rw [if_pos ⟨by simp, by omega, by omega, by simp; omega⟩]
  congr 2
  have e : ((n : Int)).toNat = n := by omega
  rw [e]
  induction n with
  | zero => rfl
  | succ m ih =>
    rw [List.replicate_succ, List.flatten_cons, ih (by omega) (by omega)]
    rfl⟩
theorem lstsOf_map {α : Type} (f : α → List Val) : ∀ l : List α, lstsOf (l.map fun a => .lst (f a)) = some (l.map f)
  | [] => rfl
  | a :: l => by
    show (lstsOf (l.map fun a => .lst (f a))).map _ = _
    rw [lstsOf_map f l]
    rfl
theorem it_lstT {n : Nat} {g : Nat → Nat → Nat} : IsIt (lstT n g) ((List.range n).map fun a => .lst ((List.range n).map fun b => .int ((g a b : Nat) : Int))) := ⟨rfl⟩
theorem l_lstT {n : Nat} {g : Nat → Nat → Nat} : IsF (biV .len) [lstT n g] (.int (n : Int)) := f_lenL
theorem i_lstT {n a : Nat} {g : Nat → Nat → Nat} (h : a < n) : Is2 idxV (lstT n g) (.int ((a : Nat) : Int)) (.lst ((List.range n).map fun b => .int ((g a b : Nat) : Int))) := i_lstR h
theorem ladder_isV {sv : Val} {ns : List Int} {at' : Nat} (hs : IsScr sv ns) : ∃ n g, 1 ≤ n ∧ n ≤ 8 ∧ LadP n g ∧ IsF F_law_ladder [sv, .int (at' : Int)] (tabV n g) := by
  obtain ⟨t, ht, hB⟩ := base_is (sv := sv) (ns := ns) (at' := at')
  obtain ⟨b1, b2, bl⟩ := base_lad ht
  obtain ⟨n, hn⟩ : ∃ n, n = t.length := ⟨_, rfl⟩
  obtain ⟨B, hBd⟩ : ∃ B, B = gOf t := ⟨_, rfl⟩
  have hBV : baseV t = lstT n B := by rw [hn, hBd]; rfl
  rw [← hn] at b1 b2 bl
  rw [← hBd] at bl
  rw [hBV] at hB
  have hc : cap = 100000 := rfl
  have hcap : n ≤ cap := by omega
  -- the numbering
  have hpop : ∃ nm : List Nat, popAll (popF' 5 3 4 (.call "_law_pick" F_law_pick (.cons (.var 0) (.cons (.bin .add (.bin .add (.var 1) (.int 2)) (.var 4)) (.cons (.b1 .len (.var 3)) .nil)))) [.val (sv), .val (.int (at' : Int)), .val (lstT n B), .own (ivs (List.range n)), .non, .non, .non, .non, .non, .non]) ((List.range n).map fun i => .int ((i : Nat) : Int)) (ivs (List.range n)) = some (ivs nm, []) ∧ nm.Perm (List.range n) := by
    refine popAll_perm (List.range n) (List.range n) rfl fun i hi L' h0 hle => ⟨pickN ns (at' + 2 + i) L'.length, pick_lt h0, popF_int ?_⟩
    (repeat' (first | exact pick_is (k := at' + 2 + i) (m := L'.length) (by omega) (by unfold ivs; rw [List.length_map]) h0 | exact w_int | exact w_bool | exact w_non | exact w_str | exact w_glob | exact w_nil | exact w_no | exact w_var ⟨rfl⟩ | exact w_own ⟨rfl⟩ | exact w_own2 ⟨rfl⟩ | exact w_opt0 | exact w_opt1 | exact w_sl_tup | exact w_sl_lst | apply w_cons | apply w_idx | apply w_cmp | apply w_bin | apply w_b1 | refine' w_b2 ?_ ?_ rfl ?_ | apply w_call | apply w_neg | apply w_tup | apply w_lst | apply w_not | apply w_and | apply w_or | apply w_ife | refine' fun i hi => ⟨_, rfl, ?_⟩ | refine' fun (_ : Eq (α := Bool) _ _) => ?_ | apply w_chain | apply w_rng | apply w_rev | apply w_seq | apply w_yes | apply w_slice | apply w_range1 | refine' w_comp ?_ ?_ | refine' w_compF ?_ ?_ | exact Nat.le_of_ble_eq_true rfl | exact Lad.cap (by assumption) | exact i_tab (by assumption) | exact i_row (by assumption) | (apply i_tab; (first | assumption | solve_by_elim only [*, lt_of_range, lt_of_filt, All.lt, Lad.el, Lad.cl, Rul.lt])) | (apply i_row; (first | assumption | solve_by_elim only [*, lt_of_range, lt_of_filt, All.lt, Lad.el, Lad.cl, Rul.lt])) | exact l_tab | exact l_row | exact it_row | exact c_neN | exact c_eqN | exact c_ltN | exact c_leN | exact c_ne _ _ | exact c_eq _ _ | exact f_any _ _ | exact f_all _ _ | exact l_tup | exact l_lst | exact l_scr | exact f_isiT | exact c_le | exact c_lt | exact c_gt | exact c_ge | exact b_add | exact b_sub | exact f_max | exact f_lstR | exact f_tup | exact f_lst | exact it_tab | exact w_it_tup | exact w_it_lst | refine' And.intro ?_ ?_))
  obtain ⟨nm, hpop, hperm⟩ := hpop
  have hlen : nm.length = n := by
    rw [hperm.length_eq, List.length_range]
  obtain ⟨f, hf⟩ : ∃ f : Nat → Nat, f = fun i => nm.getD i 0 := ⟨_, rfl⟩
  have hget : ∀ i, (h : i < n) → f i = nm[i]'(by omega) := fun i h => by
    rw [hf]
    show nm.getD i 0 = _
    rw [List.getD_eq_getElem?_getD, List.getElem?_eq_getElem (by omega)]
    rfl
  have flt : ∀ a, a < n → f a < n := fun a ha => by
    rw [hget a ha]
    exact List.mem_range.mp (hperm.mem_iff.mp (List.getElem_mem _))
  have fon : ∀ x, x < n → ∃ a, a < n ∧ f a = x := fun x hx => by
    have hm : x ∈ nm := hperm.mem_iff.mpr (List.mem_range.mpr hx)
    obtain ⟨i, hi, e⟩ := List.getElem_of_mem hm
    exact ⟨i, by omega, by rw [hget i (by omega)]; exact e⟩
  have fin : ∀ a, a < n → ∀ b, b < n → f a = f b → a = b := fun a ha b hb e => by
    rw [hget a ha, hget b hb] at e
    have nd := List.pairwise_iff_getElem.mp (hperm.nodup_iff.mpr List.nodup_range)
    rcases Nat.lt_trichotomy a b with q | q | q
    · exact absurd e (nd a b (by omega) (by omega) q)
    · exact q
    · exact absurd e.symm (nd b a (by omega) (by omega) q)
  have hnm : ivs nm = (List.range n).map fun i => .int ((f i : Nat) : Int) := by
    rw [hf]
    exact ints_range hlen
  rw [hnm] at hpop
  refine ⟨n, allW n f (fun a b => f (B a b)) (fun _ _ => 0), b1, b2, bl.move flt fon (fun a ha b hb => allW_at fin ha hb), ?_⟩
  have loop := t_loop (n := FUEL) (ρ := [.val (sv), .val (.int (at' : Int)), .val (lstT n B), .own [], .non, .val (.lst ((List.range n).map fun i => .int ((f i : Nat) : Int))), .non, .own2 (tab2 n fun _ _ => 0), .non, .non]) (tg := .name 8) (src := .range1 (.b1 .len (.var 2))) (ks := [8, 9])
    (body := .cons (.for (.name 9) (.range1 (.b1 .len (.var 2))) (.cons (.set2 7 (.idx (.var 5) (.var 8)) (.idx (.var 5) (.var 9)) (.idx (.var 5) (.idx (.idx (.var 2) (.var 8)) (.var 9)))) .nil) [9]) .nil)
    (st := fun g => [.val (sv), .val (.int (at' : Int)), .val (lstT n B), .own [], .non, .val (.lst ((List.range n).map fun i => .int ((f i : Nat) : Int))), .non, .own2 (tab2 n g), .non, .non])
    (g := fun g a => rowW n f (fun a b => f (B a b)) g a) (φ := fun i => .int ((i : Nat) : Int)) (fun _ => True) (List.range n) (fun _ _ => 0)
    (w_range1 (m := n) (w_b1 (w_var ⟨rfl⟩) l_lstT) hcap) rfl trivial fun g a ha _ => by
      have ha := lt_of_range ha
      have inner := t_loop (n := FUEL) (ρ := [.val (sv), .val (.int (at' : Int)), .val (lstT n B), .own [], .non, .val (.lst ((List.range n).map fun i => .int ((f i : Nat) : Int))), .non, .own2 (tab2 n g), .val (.int ((a : Nat) : Int)), .non]) (tg := .name 9) (src := .range1 (.b1 .len (.var 2))) (ks := [9])
        (body := .cons (.set2 7 (.idx (.var 5) (.var 8)) (.idx (.var 5) (.var 9)) (.idx (.var 5) (.idx (.idx (.var 2) (.var 8)) (.var 9)))) .nil)
        (st := fun g => [.val (sv), .val (.int (at' : Int)), .val (lstT n B), .own [], .non, .val (.lst ((List.range n).map fun i => .int ((f i : Nat) : Int))), .non, .own2 (tab2 n g), .val (.int ((a : Nat) : Int)), .non])
        (g := fun g b => upd2 g (f a) (f b) (f (B a b))) (φ := fun i => .int ((i : Nat) : Int)) (fun _ => True) (List.range n) g
        (w_range1 (m := n) (w_b1 (w_var ⟨rfl⟩) l_lstT) hcap) rfl trivial fun g b hb _ => by
          have hb := lt_of_range hb
          have hab := bl.cl a ha b hb
          have fa := flt a ha
          have fb := flt b hb
          refine ⟨[.val (sv), .val (.int (at' : Int)), .val (lstT n B), .own [], .non, .val (.lst ((List.range n).map fun i => .int ((f i : Nat) : Int))), .non, .own2 (tab2 n g), .val (.int ((a : Nat) : Int)), .val (.int ((b : Nat) : Int))], _, rfl, t_one (t_set2 (v := .int ((f (B a b) : Nat) : Int)) (k := ((f a : Nat) : Int)) (k2 := ((f b : Nat) : Int)) (j := f a) (j2 := f b) (vs := (List.range n).map fun b => .int ((g (f a) b : Nat) : Int)) ?_ rfl ⟨rfl⟩ ?_ ?_ ?_ ?_ ?_ rfl), ?_, trivial⟩
          · (repeat' (first | exact i_lstT ha | exact i_lstR ha | exact i_lstR hb | exact i_lstR hab | exact w_int | exact w_bool | exact w_non | exact w_str | exact w_glob | exact w_nil | exact w_no | exact w_var ⟨rfl⟩ | exact w_own ⟨rfl⟩ | exact w_own2 ⟨rfl⟩ | exact w_opt0 | exact w_opt1 | exact w_sl_tup | exact w_sl_lst | apply w_cons | apply w_idx | apply w_cmp | apply w_bin | apply w_b1 | refine' w_b2 ?_ ?_ rfl ?_ | apply w_call | apply w_neg | apply w_tup | apply w_lst | apply w_not | apply w_and | apply w_or | apply w_ife | refine' fun i hi => ⟨_, rfl, ?_⟩ | refine' fun (_ : Eq (α := Bool) _ _) => ?_ | apply w_chain | apply w_rng | apply w_rev | apply w_seq | apply w_yes | apply w_slice | apply w_range1 | refine' w_comp ?_ ?_ | refine' w_compF ?_ ?_ | exact Nat.le_of_ble_eq_true rfl | exact Lad.cap (by assumption) | exact i_tab (by assumption) | exact i_row (by assumption) | (apply i_tab; (first | assumption | solve_by_elim only [*, lt_of_range, lt_of_filt, All.lt, Lad.el, Lad.cl, Rul.lt])) | (apply i_row; (first | assumption | solve_by_elim only [*, lt_of_range, lt_of_filt, All.lt, Lad.el, Lad.cl, Rul.lt])) | exact l_tab | exact l_row | exact it_row | exact c_neN | exact c_eqN | exact c_ltN | exact c_leN | exact c_ne _ _ | exact c_eq _ _ | exact f_any _ _ | exact f_all _ _ | exact l_tup | exact l_lst | exact l_scr | exact f_isiT | exact c_le | exact c_lt | exact c_gt | exact c_ge | exact b_add | exact b_sub | exact f_max | exact f_lstR | exact f_tup | exact f_lst | exact it_tab | exact w_it_tup | exact w_it_lst | refine' And.intro ?_ ?_))
          · (repeat' (first | exact i_lstR ha | exact w_int | exact w_bool | exact w_non | exact w_str | exact w_glob | exact w_nil | exact w_no | exact w_var ⟨rfl⟩ | exact w_own ⟨rfl⟩ | exact w_own2 ⟨rfl⟩ | exact w_opt0 | exact w_opt1 | exact w_sl_tup | exact w_sl_lst | apply w_cons | apply w_idx | apply w_cmp | apply w_bin | apply w_b1 | refine' w_b2 ?_ ?_ rfl ?_ | apply w_call | apply w_neg | apply w_tup | apply w_lst | apply w_not | apply w_and | apply w_or | apply w_ife | refine' fun i hi => ⟨_, rfl, ?_⟩ | refine' fun (_ : Eq (α := Bool) _ _) => ?_ | apply w_chain | apply w_rng | apply w_rev | apply w_seq | apply w_yes | apply w_slice | apply w_range1 | refine' w_comp ?_ ?_ | refine' w_compF ?_ ?_ | exact Nat.le_of_ble_eq_true rfl | exact Lad.cap (by assumption) | exact i_tab (by assumption) | exact i_row (by assumption) | (apply i_tab; (first | assumption | solve_by_elim only [*, lt_of_range, lt_of_filt, All.lt, Lad.el, Lad.cl, Rul.lt])) | (apply i_row; (first | assumption | solve_by_elim only [*, lt_of_range, lt_of_filt, All.lt, Lad.el, Lad.cl, Rul.lt])) | exact l_tab | exact l_row | exact it_row | exact c_neN | exact c_eqN | exact c_ltN | exact c_leN | exact c_ne _ _ | exact c_eq _ _ | exact f_any _ _ | exact f_all _ _ | exact l_tup | exact l_lst | exact l_scr | exact f_isiT | exact c_le | exact c_lt | exact c_gt | exact c_ge | exact b_add | exact b_sub | exact f_max | exact f_lstR | exact f_tup | exact f_lst | exact it_tab | exact w_it_tup | exact w_it_lst | refine' And.intro ?_ ?_))
          · have : (tab2 n g).length = n := by unfold tab2; rw [List.length_map, List.length_range]
            rw [this]
            exact ixN_nat fa
          · unfold tab2
            rw [List.getElem?_map, List.getElem?_range fa]
            rfl
          · (repeat' (first | exact i_lstR hb | exact w_int | exact w_bool | exact w_non | exact w_str | exact w_glob | exact w_nil | exact w_no | exact w_var ⟨rfl⟩ | exact w_own ⟨rfl⟩ | exact w_own2 ⟨rfl⟩ | exact w_opt0 | exact w_opt1 | exact w_sl_tup | exact w_sl_lst | apply w_cons | apply w_idx | apply w_cmp | apply w_bin | apply w_b1 | refine' w_b2 ?_ ?_ rfl ?_ | apply w_call | apply w_neg | apply w_tup | apply w_lst | apply w_not | apply w_and | apply w_or | apply w_ife | refine' fun i hi => ⟨_, rfl, ?_⟩ | refine' fun (_ : Eq (α := Bool) _ _) => ?_ | apply w_chain | apply w_rng | apply w_rev | apply w_seq | apply w_yes | apply w_slice | apply w_range1 | refine' w_comp ?_ ?_ | refine' w_compF ?_ ?_ | exact Nat.le_of_ble_eq_true rfl | exact Lad.cap (by assumption) | exact i_tab (by assumption) | exact i_row (by assumption) | (apply i_tab; (first | assumption | solve_by_elim only [*, lt_of_range, lt_of_filt, All.lt, Lad.el, Lad.cl, Rul.lt])) | (apply i_row; (first | assumption | solve_by_elim only [*, lt_of_range, lt_of_filt, All.lt, Lad.el, Lad.cl, Rul.lt])) | exact l_tab | exact l_row | exact it_row | exact c_neN | exact c_eqN | exact c_ltN | exact c_leN | exact c_ne _ _ | exact c_eq _ _ | exact f_any _ _ | exact f_all _ _ | exact l_tup | exact l_lst | exact l_scr | exact f_isiT | exact c_le | exact c_lt | exact c_gt | exact c_ge | exact b_add | exact b_sub | exact f_max | exact f_lstR | exact f_tup | exact f_lst | exact it_tab | exact w_it_tup | exact w_it_lst | refine' And.intro ?_ ?_))
          · rw [List.length_map, List.length_range]
            exact ixN_nat fb
          · rw [tab2_set fa fb]
            rfl
      exact ⟨_, _, rfl, t_one inner.1, rfl, trivial⟩
  refine fun_is rfl (t_cons (t_asg (v := lstT n B) ?_ rfl) (t_cons (t_ownL (vs := ivs (List.range n)) ?_ rfl rfl) (t_cons (t_compPop (p := ((List.range n).map fun i => .int ((f i : Nat) : Int), [])) (vs := ivs (List.range n)) (items := (List.range n).map fun i => .int ((i : Nat) : Int)) ⟨rfl⟩ ?_ ?_ (by decide) rfl)
    (t_cons (t_own2 (xs := (List.range n).map fun _ => .lst (List.replicate n (.int 0))) (vss := tab2 n fun _ _ => 0) ?_ ?_ rfl rfl) (t_cons loop.1 (t_ret ?_))))))
  · (repeat' (first | exact hB | exact w_int | exact w_bool | exact w_non | exact w_str | exact w_glob | exact w_nil | exact w_no | exact w_var ⟨rfl⟩ | exact w_own ⟨rfl⟩ | exact w_own2 ⟨rfl⟩ | exact w_opt0 | exact w_opt1 | exact w_sl_tup | exact w_sl_lst | apply w_cons | apply w_idx | apply w_cmp | apply w_bin | apply w_b1 | refine' w_b2 ?_ ?_ rfl ?_ | apply w_call | apply w_neg | apply w_tup | apply w_lst | apply w_not | apply w_and | apply w_or | apply w_ife | refine' fun i hi => ⟨_, rfl, ?_⟩ | refine' fun (_ : Eq (α := Bool) _ _) => ?_ | apply w_chain | apply w_rng | apply w_rev | apply w_seq | apply w_yes | apply w_slice | apply w_range1 | refine' w_comp ?_ ?_ | refine' w_compF ?_ ?_ | exact Nat.le_of_ble_eq_true rfl | exact Lad.cap (by assumption) | exact i_tab (by assumption) | exact i_row (by assumption) | (apply i_tab; (first | assumption | solve_by_elim only [*, lt_of_range, lt_of_filt, All.lt, Lad.el, Lad.cl, Rul.lt])) | (apply i_row; (first | assumption | solve_by_elim only [*, lt_of_range, lt_of_filt, All.lt, Lad.el, Lad.cl, Rul.lt])) | exact l_tab | exact l_row | exact it_row | exact c_neN | exact c_eqN | exact c_ltN | exact c_leN | exact c_ne _ _ | exact c_eq _ _ | exact f_any _ _ | exact f_all _ _ | exact l_tup | exact l_lst | exact l_scr | exact f_isiT | exact c_le | exact c_lt | exact c_gt | exact c_ge | exact b_add | exact b_sub | exact f_max | exact f_lstR | exact f_tup | exact f_lst | exact it_tab | exact w_it_tup | exact w_it_lst | refine' And.intro ?_ ?_))
  · exact w_rng (w_range1 (m := n) (w_b1 (w_var ⟨rfl⟩) l_lstT) hcap)
  · exact w_range1 (m := n) (w_b1 (w_var ⟨rfl⟩) l_lstT) hcap
  · exact hpop
  · refine w_comp (l := List.range n) (w_seq (w_var ⟨rfl⟩) it_lstT) fun a ha => ⟨_, rfl, ?_⟩
    exact w_bin (w_lst (w_cons w_int w_nil) (by show 1 ≤ cap; omega)) (w_b1 (w_var ⟨rfl⟩) l_lstT) (b_mulL0 (by omega))
  · rw [lstsOf_map]
    unfold tab2
    congr 1
    refine List.map_congr_left fun a _ => ?_
    rw [List.map_const', List.length_range]
    rfl
  · refine w_b1 (x := .lst ((List.range n).map fun a => rowV n (allW n f (fun a b => f (B a b)) (fun _ _ => 0) a))) (w_comp (l := List.range n) (φ := fun a => .lst ((List.range n).map fun b => .int ((allW n f (fun a b => f (B a b)) (fun _ _ => 0) a b : Nat) : Int))) (w_seq (w_own2 ⟨rfl⟩) ?_) fun a ha => ⟨_, rfl, w_b1 (w_var ⟨rfl⟩) f_tup⟩) f_tup
    show IsIt (.lst ((tab2 n (allW n f (fun a b => f (B a b)) (fun _ _ => 0))).map .lst)) _
    unfold tab2
    rw [List.map_map]
    exact w_it_lst
theorem ladder_is {ns : List Int} {at' : Nat} : ∃ n g, 1 ≤ n ∧ n ≤ 8 ∧ LadP n g ∧ IsF F_law_ladder [.scr (ns.map .int), .int (at' : Int)] (tabV n g) := ladder_isV .scr
end Lh
set_option Elab.async false
set_option linter.all false
set_option maxRecDepth 100000
set_option maxHeartbeats 4000000
namespace Lh
open L2 (atI ixN)
open PySem (Str)
theorem i_lstL {xs : List Val} {v : Val} {i : Int} (h : atI xs i = some v) : Is2 idxV (.lst xs) (.int i) v := ⟨by
  show optR (atI xs i) = _
  rw [h]
  rfl⟩
end Lh
set_option Elab.async false
set_option linter.all false
set_option maxRecDepth 100000
set_option maxHeartbeats 4000000
namespace Lh
open L2 (atI ixN)
open PySem (Str)
theorem IsF.of {F : List Val → Res Val} {xs : List Val} {v w : Val} (h : IsF F xs v) (e : v = w) : IsF F xs w := e ▸ h
theorem IsE.of {a : E} {ρ : Env} {v w : Val} (h : IsE a ρ v) (e : v = w) : IsE a ρ w := e ▸ h
section
variable {ρ ρ1 : Env} {n : Nat}
theorem t_iteR {c : E} {a ss : Ss} {k : Bool} {x y : Val} (hc : IsE c ρ (.bool k)) (ha : k = true → IsS n a ρ (.ret x)) (hb : k = false → IsS n ss ρ (.ret y)) : IsS n (.cons (.ite c a .nil) ss) ρ (.ret (if k then x else y)) := by
  cases k with
  | true => exact t_ifT hc (ha rfl)
  | false => exact t_ifF hc (hb rfl)
/-- a loop that folds into one slot -/
theorem t_fold {α β : Type} {tg : Tg} {src : Src} {body : Ss} {ks : List Nat} {φ : α → Val} {g : β → α → β} (j : Nat) (en : β → Slot) (I : β → Prop) {l : List α} {b : β} (hs : IsSrc src (eraseM ρ) (l.map φ)) (h0 : kill ρ ks = (kill ρ ks).set j (en b)) (hb : I b)
    (h : ∀ b, ∀ i ∈ l, I b → ∃ ρ' ρ'', bindT tg (φ i) ((kill ρ ks).set j (en b)) = some ρ' ∧ IsS n body ρ' (.nx ρ'') ∧ kill ρ'' ks = (kill ρ ks).set j (en (g b i)) ∧ I (g b i)) : Is1 n (.for tg src body ks) ρ (.nx ((kill ρ ks).set j (en (l.foldl g b)))) ∧ I (l.foldl g b) :=
  t_loop (st := fun b => (kill ρ ks).set j (en b)) I l b hs h0 hb h
end
theorem eqv_refl : ∀ (k : Nat) (v : Val), v.lay k = true → v.eqv v = true := by
  have hs : ∀ (k : Nat) (xs : List Val), (∀ v ∈ xs, v.eqv v = true) → Val.eqvs xs xs = true := by
    intro k xs
    induction xs with
    | nil => exact fun _ => rfl
    | cons x xs ih =>
      intro h
      show (x.eqv x && Val.eqvs xs xs) = true
      rw [h x List.mem_cons_self, ih fun v hv => h v (List.mem_cons_of_mem _ hv)]
      rfl
  intro k
  induction k with
  | zero =>
    intro v h
    cases v with
    | non => rfl
    | bool b => cases b <;> rfl
    | int i => exact decide_eq_true rfl
    | str s => exact beq_self_eq_true s
    | _ => exact (nomatch h)
  | succ k ih =>
    intro v h
    cases v with
    | non => rfl
    | bool b => cases b <;> rfl
    | int i => exact decide_eq_true rfl
    | str s => exact beq_self_eq_true s
    | tup xs => exact hs k xs fun v hv => ih v (List.all_eq_true.mp h v hv)
    | lst xs => exact hs k xs fun v hv => ih v (List.all_eq_true.mp h v hv)
    | scr xs => exact hs k xs fun v hv => ih v (List.all_eq_true.mp h v hv)
    | _ => exact (nomatch h)
theorem c_eqv {v w : Val} (h1 : v.lay 60 = true) (h2 : w.lay 60 = true) : Is2 (cmpV .eq) v w (.bool (v.eqv w)) := ⟨by
  show (if v.lay 60 && w.lay 60 then _ else _) = _
  rw [h1, h2]
  rfl⟩
theorem c_nev {v w : Val} (h1 : v.lay 60 = true) (h2 : w.lay 60 = true) : Is2 (cmpV .ne) v w (.bool (!v.eqv w)) := ⟨by
  show (if v.lay 60 && w.lay 60 then _ else _) = _
  rw [h1, h2]
  rfl⟩
/-- the same, asked whether it is -/
theorem c_eqSm {v w : Val} (h : v.lay 60 = true) (e : v = w) : Is2 (cmpV .eq) v w (.bool true) := by
  subst e
  have := c_eqv h h
  rwa [eqv_refl 60 v h] at this
theorem c_neSm {v w : Val} (h : v.lay 60 = true) (e : v = w) : Is2 (cmpV .ne) v w (.bool false) := by
  subst e
  have := c_nev h h
  rwa [eqv_refl 60 v h] at this
theorem eqv_nat (a b : Nat) : Val.eqv (.int (a : Int)) (.int (b : Int)) = decide (a = b) := by
  show ((a : Int) == (b : Int)) = _
  by_cases h : a = b
  · subst h
    rw [decide_eq_true rfl]
    exact beq_self_eq_true _
  · rw [decide_eq_false h]
    exact beq_eq_false_iff_ne.mpr (by omega)
theorem c_eqN {a b : Nat} : Is2 (cmpV .eq) (.int (a : Int)) (.int (b : Int)) (.bool (decide (a = b))) := by
  have := c_eqv (v := .int (a : Int)) (w := .int (b : Int)) rfl rfl
  rwa [eqv_nat] at this
theorem c_neN {a b : Nat} : Is2 (cmpV .ne) (.int (a : Int)) (.int (b : Int)) (.bool (!decide (a = b))) := by
  have := c_nev (v := .int (a : Int)) (w := .int (b : Int)) rfl rfl
  rwa [eqv_nat] at this
theorem c_ltN {a b : Nat} : Is2 (cmpV .lt) (.int (a : Int)) (.int (b : Int)) (.bool (decide (a < b))) := ⟨by
  show Res.ok (Val.bool (decide ((a : Int) < (b : Int)))) = _
  rw [decide_eq_decide.mpr (Int.ofNat_lt)]⟩
theorem c_leN {a b : Nat} : Is2 (cmpV .le) (.int (a : Int)) (.int (b : Int)) (.bool (decide (a ≤ b))) := ⟨by
  show Res.ok (Val.bool (decide ((a : Int) ≤ (b : Int)))) = _
  rw [decide_eq_decide.mpr (Int.ofNat_le)]⟩
/-- lists of values of which one can tell which is which -/
theorem eqvs_dec {α : Type} [DecidableEq α] {φ : α → Val} (h : ∀ a b, (φ a).eqv (φ b) = decide (a = b)) : ∀ l m : List α, Val.eqvs (l.map φ) (m.map φ) = decide (l = m)
  | [], [] => rfl
  | [], _ :: _ => rfl
  | _ :: _, [] => rfl
  | a :: l, b :: m => by
    show ((φ a).eqv (φ b) && Val.eqvs (l.map φ) (m.map φ)) = _
    rw [h, eqvs_dec h l m, ← Bool.decide_and]
    exact decide_eq_decide.mpr List.cons_eq_cons.symm
/-- a list of worths -/
abbrev ws (l : List Nat) : List Val := l.map fun i => .int ((i : Nat) : Int)
theorem lay_ws {l : List Nat} {k : Nat} : (Val.lst (ws l)).lay (k + 1) = true := lay_ints (fun i : Nat => (i : Int)) k l
theorem c_eqW {l m : List Nat} : Is2 (cmpV .eq) (.lst (ws l)) (.lst (ws m)) (.bool (decide (l = m))) := by
  have := c_eqv (v := .lst (ws l)) (w := .lst (ws m)) lay_ws lay_ws
  have e : (Val.lst (ws l)).eqv (.lst (ws m)) = decide (l = m) := eqvs_dec eqv_nat l m
  rwa [e] at this
theorem c_eqR {α : Type} {l : List α} {m : List Nat} {f : α → Nat} : Is2 (cmpV .eq) (.lst (l.map fun i => .int ((f i : Nat) : Int))) (.lst (ws m)) (.bool (decide (l.map f = m))) := by
  have := c_eqW (l := l.map f) (m := m)
  rwa [show ws (l.map f) = l.map fun i => .int ((f i : Nat) : Int) from List.map_map] at this
section
variable {ρ : Env}
theorem w_orF {a b : E} (ha : IsE a ρ (.bool false)) (hb : IsE b ρ (.bool false)) : IsE (.or a b) ρ (.bool false) := w_or ha fun _ => hb
theorem w_andT {a b : E} (ha : IsE a ρ (.bool true)) (hb : IsE b ρ (.bool true)) : IsE (.and a b) ρ (.bool true) := w_and ha fun _ => hb
theorem w_rev {a : E} {xs : List Val} (ha : IsE a ρ (.lst xs)) : IsE (.rev a) ρ (.lst xs.reverse) := ⟨by
  show (evE a ρ).bind _ = _
  rw [ha.h]
  rfl⟩
/-- a loop that goes through -/
theorem t_pass {α : Type} {n : Nat} {tg : Tg} {src : Src} {body : Ss} {ks : List Nat} {φ : α → Val} {l : List α} (hs : IsSrc src (eraseM ρ) (l.map φ))
    (h : ∀ i, i ∈ l → ∃ ρ' ρ'', bindT tg (φ i) (kill ρ ks) = some ρ' ∧ IsS n body ρ' (.nx ρ'') ∧ kill ρ'' ks = kill ρ ks) : Is1 n (.for tg src body ks) ρ (.nx (kill ρ ks)) := by
  have := t_look (n := n) (v := .non) (p := fun _ => true) (st := kill ρ ks) l hs rfl fun i hi => by
    obtain ⟨ρ', ρ'', h1, h2, h3⟩ := h i hi
    exact ⟨ρ', ρ'', h1, by rw [if_pos rfl]; exact h2, h3⟩
  rwa [List.all_eq_true.mpr fun _ _ => rfl, if_pos rfl] at this
theorem t_ifN {n : Nat} {c : E} {a : Ss} (hc : IsE c ρ (.bool false)) : Is1 n (.ite c a .nil) ρ (.nx ρ) := t_ite hc (fun h => (nomatch h)) fun _ => t_nil
end
theorem it_row {n : Nat} {f : Nat → Nat} : IsIt (rowV n f) ((List.range n).map fun i => .int ((f i : Nat) : Int)) := ⟨rfl⟩
theorem lt_of_filt {n i : Nat} {p : Nat → Bool} (h : i ∈ (List.range n).filter p) : i < n := List.mem_range.mp (List.mem_filter.mp h).1
structure All (n : Nat) (l : List Nat) : Prop where
  lt' : ∀ x, x ∈ l → x < n
theorem All.lt {n x : Nat} {l : List Nat} (h : All n l) (hx : x ∈ l) : x < n := h.lt' x hx
structure Rul (n m : Nat) (f : Nat → Nat) : Prop where
  lt' : ∀ x, x < n → f x < m
theorem Rul.lt {n m x : Nat} {f : Nat → Nat} (h : Rul n m f) (hx : x < n) : f x < m := h.lt' x hx
structure Lad (n : Nat) (g : Nat → Nat → Nat) (e : Nat) : Prop where
  n16 : n ≤ 16
  cl' : ∀ a, a < n → ∀ b, b < n → g a b < n
  idem : ∀ a, a < n → g a a = a
  comm : ∀ a, a < n → ∀ b, b < n → g a b = g b a
  assoc : ∀ a, a < n → ∀ b, b < n → ∀ c, c < n → g (g a b) c = g a (g b c)
  el : e < n
  ei : ∀ b, b < n → g e b = b
theorem Lad.cl {n a b e : Nat} {g : Nat → Nat → Nat} (h : Lad n g e) (ha : a < n) (hb : b < n) : g a b < n := h.cl' a ha b hb
theorem Lad.cap {n e : Nat} {g : Nat → Nat → Nat} (h : Lad n g e) : n ≤ cap := by
  have := h.n16
  have hc : Lh.cap = 100000 := rfl
  omega
theorem Lad.pos {n e : Nat} {g : Nat → Nat → Nat} (h : Lad n g e) : 1 ≤ n := by
  have := h.el
  omega
theorem LadP.lad {n : Nat} {g : Nat → Nat → Nat} (h : LadP n g) (h16 : n ≤ 16) : ∃ e, Lad n g e := by
  obtain ⟨e, he, h2⟩ := h.ident
  exact ⟨e, h16, h.cl, h.idem, h.comm, h.assoc, he, h2⟩
section
variable {n e : Nat} {g : Nat → Nat → Nat}
theorem Lad.ie (L : Lad n g e) {b : Nat} (hb : b < n) : g b e = b := by rw [L.comm b hb e L.el, L.ei b hb]
theorem Lad.tr (L : Lad n g e) {a b c : Nat} (ha : a < n) (hb : b < n) (hc : c < n) (h1 : g a b = b) (h2 : g b c = c) : g a c = c := by
  rw [← h2, ← L.assoc a ha b hb c hc, h1]
theorem Lad.as (L : Lad n g e) {a b : Nat} (ha : a < n) (hb : b < n) (h1 : g a b = b) (h2 : g b a = a) : a = b := by
  rw [← h2, L.comm b hb a ha, h1]
theorem Lad.upL (L : Lad n g e) {a b : Nat} (ha : a < n) (hb : b < n) : g a (g a b) = g a b := by rw [← L.assoc a ha a ha b hb, L.idem a ha]
theorem Lad.upR (L : Lad n g e) {a b : Nat} (ha : a < n) (hb : b < n) : g b (g a b) = g a b := by rw [L.comm a ha b hb, L.upL hb ha]
theorem Lad.lub (L : Lad n g e) {a b c : Nat} (ha : a < n) (hb : b < n) (hc : c < n) (h1 : g a c = c) (h2 : g b c = c) : g (g a b) c = c := by rw [L.assoc a ha b hb c hc, h2, h1]
/-- the join of a list from a worth on -/
def jn (g : Nat → Nat → Nat) (s : Nat) (l : List Nat) : Nat := l.foldl g s
theorem jn_lt (L : Lad n g e) : ∀ {l : List Nat} {s : Nat}, (∀ x, x ∈ l → x < n) → s < n → jn g s l < n
  | [], _, _, h => h
  | x :: l, s, hl, h => jn_lt L (l := l) (fun y hy => hl y (List.mem_cons_of_mem _ hy)) (L.cl h (hl x List.mem_cons_self))
theorem jn_ges (L : Lad n g e) : ∀ {l : List Nat} {s : Nat}, (∀ x, x ∈ l → x < n) → s < n → g s (jn g s l) = jn g s l
  | [], s, _, h => L.idem s h
  | x :: l, s, hl, h => by
    have hx := hl x List.mem_cons_self
    have hr : ∀ y, y ∈ l → y < n := fun y hy => hl y (List.mem_cons_of_mem _ hy)
    have hc := L.cl h hx
    exact L.tr h hc (jn_lt L (l := l) hr hc) (L.upL h hx) (jn_ges L (l := l) hr hc)
theorem jn_ge (L : Lad n g e) : ∀ {l : List Nat} {s x : Nat}, (∀ x, x ∈ l → x < n) → s < n → x ∈ l → g x (jn g s l) = jn g s l
  | y :: l, s, x, hl, h, hx => by
    have hy := hl y List.mem_cons_self
    have hr : ∀ y, y ∈ l → y < n := fun y hy => hl y (List.mem_cons_of_mem _ hy)
    have hc := L.cl h hy
    rcases List.mem_cons.mp hx with q | q
    · subst q
      exact L.tr hy hc (jn_lt L (l := l) hr hc) (L.upR h hy) (jn_ges L (l := l) hr hc)
    · exact jn_ge L (l := l) hr hc q
theorem jn_le (L : Lad n g e) : ∀ {l : List Nat} {s u : Nat}, (∀ x, x ∈ l → x < n) → s < n → u < n → g s u = u → (∀ x, x ∈ l → g x u = u) → g (jn g s l) u = u
  | [], _, _, _, _, _, h, _ => h
  | y :: l, s, u, hl, h, hu, h1, h2 => by
    have hy := hl y List.mem_cons_self
    have hr : ∀ y, y ∈ l → y < n := fun y hy => hl y (List.mem_cons_of_mem _ hy)
    exact jn_le L (l := l) hr (L.cl h hy) hu (L.lub h hy hu h1 (h2 y List.mem_cons_self)) fun x hx => h2 x (List.mem_cons_of_mem _ hx)
/-- joins over the same worths are the same -/
theorem jn_same (L : Lad n g e) {l m : List Nat} (hl : ∀ x, x ∈ l → x < n) (hm : ∀ x, x ∈ m → x < n) (h : ∀ x, x ∈ l ↔ x ∈ m) : jn g e l = jn g e m :=
  L.as (jn_lt L hl L.el) (jn_lt L hm L.el)
    (jn_le L hl L.el (jn_lt L hm L.el) (L.ei _ (jn_lt L hm L.el)) fun x hx => jn_ge L hm L.el ((h x).mp hx))
    (jn_le L hm L.el (jn_lt L hl L.el) (L.ei _ (jn_lt L hl L.el)) fun x hx => jn_ge L hl L.el ((h x).mpr hx))
/-- the worth above all -/
def top (n : Nat) (g : Nat → Nat → Nat) (e : Nat) : Nat := jn g e (List.range n)
theorem top_lt (L : Lad n g e) : top n g e < n := jn_lt L (fun x hx => List.mem_range.mp hx) L.el
theorem top_ge (L : Lad n g e) {x : Nat} (hx : x < n) : g x (top n g e) = top n g e := jn_ge L (fun x hx => List.mem_range.mp hx) L.el (List.mem_range.mpr hx)
theorem top_is (L : Lad n g e) {t : Nat} (ht : t < n) (h : ∀ x, x < n → g x t = t) : top n g e = t := L.as (top_lt L) ht (h _ (top_lt L)) (top_ge L ht)
theorem filter_one : ∀ {n e : Nat} {p : Nat → Bool}, e < n → (∀ x, x < n → p x = decide (x = e)) → (List.range n).filter p = [e]
  | 0, _, _, h, _ => absurd h (Nat.not_lt_zero _)
  | n + 1, e, p, h, hp => by
    rw [List.range_succ, List.filter_append]
    by_cases q : e = n
    · subst q
      have e1 : (List.range e).filter p = [] := List.filter_eq_nil_iff.mpr fun x hx => by
        have := List.mem_range.mp hx
        rw [hp x (by omega), decide_eq_false (by omega)]
        exact Bool.false_ne_true
      rw [e1, List.filter_cons, hp e h, decide_eq_true rfl]
      rfl
    · have e1 : (List.range n).filter p = [e] := filter_one (by omega) fun x hx => hp x (by omega)
      rw [e1, List.filter_cons, hp n (by omega), decide_eq_false (by omega)]
      rfl
theorem bot_one (L : Lad n g e) {x : Nat} (hx : x < n) : decide ((List.range n).map (g x) = List.range n) = decide (x = e) := by
  rw [decide_eq_decide]
  constructor
  · intro h
    have h1 : ((List.range n).map (g x))[e]? = (List.range n)[e]? := by rw [h]
    rw [List.getElem?_map, List.getElem?_range L.el] at h1
    have h2 : g x e = e := Option.some.inj h1
    rw [L.ie hx] at h2
    exact h2
  · intro h
    subst h
    refine List.ext_getElem? fun j => ?_
    rw [List.getElem?_map]
    by_cases hj : j < n
    · rw [List.getElem?_range hj]
      show some (g x j) = _
      rw [L.ei j hj]
    · rw [List.getElem?_eq_none (by rw [List.length_range]; omega)]
      rfl
end
theorem i_lst0 {α : Type} {l : List α} {φ : α → Val} {x : α} {t : List α} (h : l = x :: t) : Is2 idxV (.lst (l.map φ)) (.int 0) (φ x) := i_lstL (by
  subst h
  unfold atI
  show (ixN _ ((0 : Nat) : Int)).bind _ = _
  rw [ixN_nat (by rw [List.length_map]; exact Nat.zero_lt_succ _)]
  rfl)
section
variable {n e : Nat} {g : Nat → Nat → Nat}
theorem least_is (L : Lad n g e) : IsF F_least_of [tabV n g] (.int (e : Int)) := by
  have h1 : (List.range n).filter (fun x => decide ((List.range n).map (g x) = List.range n)) = [e] := filter_one L.el fun x hx => bot_one L hx
  refine fun_is rfl ?_
  (repeat' (first | exact c_eqR | exact i_lst0 h1 | apply t_ret | refine' t_cons (t_asg ?_ rfl) ?_ | apply t_iteR | apply t_check1 | apply t_check | exact w_int | exact w_bool | exact w_non | exact w_str | exact w_glob | exact w_nil | exact w_no | exact w_var ⟨rfl⟩ | exact w_own ⟨rfl⟩ | exact w_own2 ⟨rfl⟩ | exact w_opt0 | exact w_opt1 | exact w_sl_tup | exact w_sl_lst | apply w_cons | apply w_idx | apply w_cmp | apply w_bin | apply w_b1 | refine' w_b2 ?_ ?_ rfl ?_ | apply w_call | apply w_neg | apply w_tup | apply w_lst | apply w_not | apply w_and | apply w_or | apply w_ife | refine' fun i hi => ⟨_, rfl, ?_⟩ | refine' fun (_ : Eq (α := Bool) _ _) => ?_ | apply w_chain | apply w_rng | apply w_rev | apply w_seq | apply w_yes | apply w_slice | apply w_range1 | refine' w_comp ?_ ?_ | refine' w_compF ?_ ?_ | exact Nat.le_of_ble_eq_true rfl | exact Lad.cap (by assumption) | exact i_tab (by assumption) | exact i_row (by assumption) | (apply i_tab; (first | assumption | solve_by_elim only [*, lt_of_range, lt_of_filt, All.lt, Lad.el, Lad.cl, Rul.lt])) | (apply i_row; (first | assumption | solve_by_elim only [*, lt_of_range, lt_of_filt, All.lt, Lad.el, Lad.cl, Rul.lt])) | exact l_tab | exact l_row | exact it_row | exact c_neN | exact c_eqN | exact c_ltN | exact c_leN | exact c_ne _ _ | exact c_eq _ _ | exact f_any _ _ | exact f_all _ _ | exact l_tup | exact l_lst | exact l_scr | exact f_isiT | exact c_le | exact c_lt | exact c_gt | exact c_ge | exact b_add | exact b_sub | exact f_max | exact f_lstR | exact f_tup | exact f_lst | exact it_tab | exact w_it_tup | exact w_it_lst | refine' And.intro ?_ ?_))
theorem low_is (L : Lad n g e) : IsF F_law_low [tabV n g] (.int (e : Int)) := by
  have h1 : (List.range n).filter (fun x => decide ((List.range n).map (g x) = List.range n)) = [e] := filter_one L.el fun x hx => bot_one L hx
  refine fun_is rfl ?_
  (repeat' (first | exact c_eqR | exact i_lst0 h1 | apply t_ret | refine' t_cons (t_asg ?_ rfl) ?_ | apply t_iteR | apply t_check1 | apply t_check | exact w_int | exact w_bool | exact w_non | exact w_str | exact w_glob | exact w_nil | exact w_no | exact w_var ⟨rfl⟩ | exact w_own ⟨rfl⟩ | exact w_own2 ⟨rfl⟩ | exact w_opt0 | exact w_opt1 | exact w_sl_tup | exact w_sl_lst | apply w_cons | apply w_idx | apply w_cmp | apply w_bin | apply w_b1 | refine' w_b2 ?_ ?_ rfl ?_ | apply w_call | apply w_neg | apply w_tup | apply w_lst | apply w_not | apply w_and | apply w_or | apply w_ife | refine' fun i hi => ⟨_, rfl, ?_⟩ | refine' fun (_ : Eq (α := Bool) _ _) => ?_ | apply w_chain | apply w_rng | apply w_rev | apply w_seq | apply w_yes | apply w_slice | apply w_range1 | refine' w_comp ?_ ?_ | refine' w_compF ?_ ?_ | exact Nat.le_of_ble_eq_true rfl | exact Lad.cap (by assumption) | exact i_tab (by assumption) | exact i_row (by assumption) | (apply i_tab; (first | assumption | solve_by_elim only [*, lt_of_range, lt_of_filt, All.lt, Lad.el, Lad.cl, Rul.lt])) | (apply i_row; (first | assumption | solve_by_elim only [*, lt_of_range, lt_of_filt, All.lt, Lad.el, Lad.cl, Rul.lt])) | exact l_tab | exact l_row | exact it_row | exact c_neN | exact c_eqN | exact c_ltN | exact c_leN | exact c_ne _ _ | exact c_eq _ _ | exact f_any _ _ | exact f_all _ _ | exact l_tup | exact l_lst | exact l_scr | exact f_isiT | exact c_le | exact c_lt | exact c_gt | exact c_ge | exact b_add | exact b_sub | exact f_max | exact f_lstR | exact f_tup | exact f_lst | exact it_tab | exact w_it_tup | exact w_it_lst | refine' And.intro ?_ ?_))
theorem is_below_is {a b : Nat} (L : Lad n g e) (ha : a < n) (hb : b < n) : IsF F_is_below [tabV n g, .int (a : Int), .int (b : Int)] (.bool (decide (g a b = b))) := by
  refine fun_is rfl ?_
  (repeat' (first | apply t_ret | refine' t_cons (t_asg ?_ rfl) ?_ | apply t_iteR | apply t_check1 | apply t_check | exact w_int | exact w_bool | exact w_non | exact w_str | exact w_glob | exact w_nil | exact w_no | exact w_var ⟨rfl⟩ | exact w_own ⟨rfl⟩ | exact w_own2 ⟨rfl⟩ | exact w_opt0 | exact w_opt1 | exact w_sl_tup | exact w_sl_lst | apply w_cons | apply w_idx | apply w_cmp | apply w_bin | apply w_b1 | refine' w_b2 ?_ ?_ rfl ?_ | apply w_call | apply w_neg | apply w_tup | apply w_lst | apply w_not | apply w_and | apply w_or | apply w_ife | refine' fun i hi => ⟨_, rfl, ?_⟩ | refine' fun (_ : Eq (α := Bool) _ _) => ?_ | apply w_chain | apply w_rng | apply w_rev | apply w_seq | apply w_yes | apply w_slice | apply w_range1 | refine' w_comp ?_ ?_ | refine' w_compF ?_ ?_ | exact Nat.le_of_ble_eq_true rfl | exact Lad.cap (by assumption) | exact i_tab (by assumption) | exact i_row (by assumption) | (apply i_tab; (first | assumption | solve_by_elim only [*, lt_of_range, lt_of_filt, All.lt, Lad.el, Lad.cl, Rul.lt])) | (apply i_row; (first | assumption | solve_by_elim only [*, lt_of_range, lt_of_filt, All.lt, Lad.el, Lad.cl, Rul.lt])) | exact l_tab | exact l_row | exact it_row | exact c_neN | exact c_eqN | exact c_ltN | exact c_leN | exact c_ne _ _ | exact c_eq _ _ | exact f_any _ _ | exact f_all _ _ | exact l_tup | exact l_lst | exact l_scr | exact f_isiT | exact c_le | exact c_lt | exact c_gt | exact c_ge | exact b_add | exact b_sub | exact f_max | exact f_lstR | exact f_tup | exact f_lst | exact it_tab | exact w_it_tup | exact w_it_lst | refine' And.intro ?_ ?_))
def bel (n : Nat) (g : Nat → Nat → Nat) (b : Nat) : List Nat := (List.range n).filter fun a => decide (g a b = b)
theorem below_is {b : Nat} (L : Lad n g e) (hb : b < n) : IsF F_below [tabV n g, .int (b : Int)] (.lst ((bel n g b).map fun i => .int ((i : Nat) : Int))) := by
  refine fun_is rfl ?_
  (repeat' (first | (apply is_below_is L; (first | assumption | solve_by_elim only [*, lt_of_range, lt_of_filt, All.lt, Lad.el, Lad.cl, Rul.lt]); (first | assumption | solve_by_elim only [*, lt_of_range, lt_of_filt, All.lt, Lad.el, Lad.cl, Rul.lt])) | apply t_ret | refine' t_cons (t_asg ?_ rfl) ?_ | apply t_iteR | apply t_check1 | apply t_check | exact w_int | exact w_bool | exact w_non | exact w_str | exact w_glob | exact w_nil | exact w_no | exact w_var ⟨rfl⟩ | exact w_own ⟨rfl⟩ | exact w_own2 ⟨rfl⟩ | exact w_opt0 | exact w_opt1 | exact w_sl_tup | exact w_sl_lst | apply w_cons | apply w_idx | apply w_cmp | apply w_bin | apply w_b1 | refine' w_b2 ?_ ?_ rfl ?_ | apply w_call | apply w_neg | apply w_tup | apply w_lst | apply w_not | apply w_and | apply w_or | apply w_ife | refine' fun i hi => ⟨_, rfl, ?_⟩ | refine' fun (_ : Eq (α := Bool) _ _) => ?_ | apply w_chain | apply w_rng | apply w_rev | apply w_seq | apply w_yes | apply w_slice | apply w_range1 | refine' w_comp ?_ ?_ | refine' w_compF ?_ ?_ | exact Nat.le_of_ble_eq_true rfl | exact Lad.cap (by assumption) | exact i_tab (by assumption) | exact i_row (by assumption) | (apply i_tab; (first | assumption | solve_by_elim only [*, lt_of_range, lt_of_filt, All.lt, Lad.el, Lad.cl, Rul.lt])) | (apply i_row; (first | assumption | solve_by_elim only [*, lt_of_range, lt_of_filt, All.lt, Lad.el, Lad.cl, Rul.lt])) | exact l_tab | exact l_row | exact it_row | exact c_neN | exact c_eqN | exact c_ltN | exact c_leN | exact c_ne _ _ | exact c_eq _ _ | exact f_any _ _ | exact f_all _ _ | exact l_tup | exact l_lst | exact l_scr | exact f_isiT | exact c_le | exact c_lt | exact c_gt | exact c_ge | exact b_add | exact b_sub | exact f_max | exact f_lstR | exact f_tup | exact f_lst | exact it_tab | exact w_it_tup | exact w_it_lst | refine' And.intro ?_ ?_))
theorem under_is {b : Nat} (L : Lad n g e) (hb : b < n) : IsF F_law_under [tabV n g, .int (b : Int)] (.lst ((bel n g b).map fun i => .int ((i : Nat) : Int))) := by
  refine fun_is rfl ?_
  (repeat' (first | apply t_ret | refine' t_cons (t_asg ?_ rfl) ?_ | apply t_iteR | apply t_check1 | apply t_check | exact w_int | exact w_bool | exact w_non | exact w_str | exact w_glob | exact w_nil | exact w_no | exact w_var ⟨rfl⟩ | exact w_own ⟨rfl⟩ | exact w_own2 ⟨rfl⟩ | exact w_opt0 | exact w_opt1 | exact w_sl_tup | exact w_sl_lst | apply w_cons | apply w_idx | apply w_cmp | apply w_bin | apply w_b1 | refine' w_b2 ?_ ?_ rfl ?_ | apply w_call | apply w_neg | apply w_tup | apply w_lst | apply w_not | apply w_and | apply w_or | apply w_ife | refine' fun i hi => ⟨_, rfl, ?_⟩ | refine' fun (_ : Eq (α := Bool) _ _) => ?_ | apply w_chain | apply w_rng | apply w_rev | apply w_seq | apply w_yes | apply w_slice | apply w_range1 | refine' w_comp ?_ ?_ | refine' w_compF ?_ ?_ | exact Nat.le_of_ble_eq_true rfl | exact Lad.cap (by assumption) | exact i_tab (by assumption) | exact i_row (by assumption) | (apply i_tab; (first | assumption | solve_by_elim only [*, lt_of_range, lt_of_filt, All.lt, Lad.el, Lad.cl, Rul.lt])) | (apply i_row; (first | assumption | solve_by_elim only [*, lt_of_range, lt_of_filt, All.lt, Lad.el, Lad.cl, Rul.lt])) | exact l_tab | exact l_row | exact it_row | exact c_neN | exact c_eqN | exact c_ltN | exact c_leN | exact c_ne _ _ | exact c_eq _ _ | exact f_any _ _ | exact f_all _ _ | exact l_tup | exact l_lst | exact l_scr | exact f_isiT | exact c_le | exact c_lt | exact c_gt | exact c_ge | exact b_add | exact b_sub | exact f_max | exact f_lstR | exact f_tup | exact f_lst | exact it_tab | exact w_it_tup | exact w_it_lst | refine' And.intro ?_ ?_))
end
end Lh
set_option Elab.async false
set_option linter.all false
set_option maxRecDepth 100000
set_option maxHeartbeats 4000000
namespace Lh
open PySem (Str)
section
variable {n e : Nat} {g : Nat → Nat → Nat}
theorem joined_is {l : List Nat} {v : Val} (L : Lad n g e) (hl : ∀ x, x ∈ l → x < n) (hv : IsIt v (ws l)) : IsF F_joined_all [tabV n g, v] (.int ((jn g e l : Nat) : Int)) := by
  have hA : All n l := ⟨hl⟩
  refine fun_is rfl (t_cons (t_asg (v := .int (e : Int)) ?_ rfl) (t_cons (t_fold (g := g) (l := l) (φ := fun i => .int ((i : Nat) : Int)) 2 (fun b : Nat => .val (.int ((b : Nat) : Int))) (fun b => b < n) (b := e) (w_seq (w_var ⟨rfl⟩) hv) ?_ L.el fun b i hi hb => ⟨_, _, rfl, t_one (t_asg ?_ rfl), rfl, L.cl hb (hl i hi)⟩).1 (t_ret ?_)))
  · (repeat' (first | exact least_is L | exact w_int | exact w_bool | exact w_non | exact w_str | exact w_glob | exact w_nil | exact w_no | exact w_var ⟨rfl⟩ | exact w_own ⟨rfl⟩ | exact w_own2 ⟨rfl⟩ | exact w_opt0 | exact w_opt1 | exact w_sl_tup | exact w_sl_lst | apply w_cons | apply w_idx | apply w_cmp | apply w_bin | apply w_b1 | refine' w_b2 ?_ ?_ rfl ?_ | apply w_call | apply w_neg | apply w_tup | apply w_lst | apply w_not | apply w_and | apply w_or | apply w_ife | refine' fun i hi => ⟨_, rfl, ?_⟩ | refine' fun (_ : Eq (α := Bool) _ _) => ?_ | apply w_chain | apply w_rng | apply w_rev | apply w_seq | apply w_yes | apply w_slice | apply w_range1 | refine' w_comp ?_ ?_ | refine' w_compF ?_ ?_ | exact Nat.le_of_ble_eq_true rfl | exact Lad.cap (by assumption) | exact i_tab (by assumption) | exact i_row (by assumption) | (apply i_tab; (first | assumption | solve_by_elim only [*, lt_of_range, lt_of_filt, All.lt, Lad.el, Lad.cl, Rul.lt])) | (apply i_row; (first | assumption | solve_by_elim only [*, lt_of_range, lt_of_filt, All.lt, Lad.el, Lad.cl, Rul.lt])) | exact l_tab | exact l_row | exact it_row | exact c_neN | exact c_eqN | exact c_ltN | exact c_leN | exact c_ne _ _ | exact c_eq _ _ | exact f_any _ _ | exact f_all _ _ | exact l_tup | exact l_lst | exact l_scr | exact f_isiT | exact c_le | exact c_lt | exact c_gt | exact c_ge | exact b_add | exact b_sub | exact f_max | exact f_lstR | exact f_tup | exact f_lst | exact it_tab | exact w_it_tup | exact w_it_lst | refine' And.intro ?_ ?_))
  · rfl
  · (repeat' (first | exact w_int | exact w_bool | exact w_non | exact w_str | exact w_glob | exact w_nil | exact w_no | exact w_var ⟨rfl⟩ | exact w_own ⟨rfl⟩ | exact w_own2 ⟨rfl⟩ | exact w_opt0 | exact w_opt1 | exact w_sl_tup | exact w_sl_lst | apply w_cons | apply w_idx | apply w_cmp | apply w_bin | apply w_b1 | refine' w_b2 ?_ ?_ rfl ?_ | apply w_call | apply w_neg | apply w_tup | apply w_lst | apply w_not | apply w_and | apply w_or | apply w_ife | refine' fun i hi => ⟨_, rfl, ?_⟩ | refine' fun (_ : Eq (α := Bool) _ _) => ?_ | apply w_chain | apply w_rng | apply w_rev | apply w_seq | apply w_yes | apply w_slice | apply w_range1 | refine' w_comp ?_ ?_ | refine' w_compF ?_ ?_ | exact Nat.le_of_ble_eq_true rfl | exact Lad.cap (by assumption) | exact i_tab (by assumption) | exact i_row (by assumption) | (apply i_tab; (first | assumption | solve_by_elim only [*, lt_of_range, lt_of_filt, All.lt, Lad.el, Lad.cl, Rul.lt])) | (apply i_row; (first | assumption | solve_by_elim only [*, lt_of_range, lt_of_filt, All.lt, Lad.el, Lad.cl, Rul.lt])) | exact l_tab | exact l_row | exact it_row | exact c_neN | exact c_eqN | exact c_ltN | exact c_leN | exact c_ne _ _ | exact c_eq _ _ | exact f_any _ _ | exact f_all _ _ | exact l_tup | exact l_lst | exact l_scr | exact f_isiT | exact c_le | exact c_lt | exact c_gt | exact c_ge | exact b_add | exact b_sub | exact f_max | exact f_lstR | exact f_tup | exact f_lst | exact it_tab | exact w_it_tup | exact w_it_lst | refine' And.intro ?_ ?_))
  · exact w_var ⟨rfl⟩
theorem join_is {l : List Nat} {v : Val} (L : Lad n g e) (hl : ∀ x, x ∈ l → x < n) (hv : IsIt v (ws l)) : IsF F_law_join [tabV n g, v] (.int ((jn g e l : Nat) : Int)) := by
  have hA : All n l := ⟨hl⟩
  refine fun_is rfl (t_cons (t_asg (v := .int (e : Int)) ?_ rfl) (t_cons (t_fold (g := g) (l := l) (φ := fun i => .int ((i : Nat) : Int)) 2 (fun b : Nat => .val (.int ((b : Nat) : Int))) (fun b => b < n) (b := e) (w_seq (w_var ⟨rfl⟩) hv) ?_ L.el fun b i hi hb => ⟨_, _, rfl, t_one (t_asg ?_ rfl), rfl, L.cl hb (hl i hi)⟩).1 (t_ret ?_)))
  · (repeat' (first | exact low_is L | exact w_int | exact w_bool | exact w_non | exact w_str | exact w_glob | exact w_nil | exact w_no | exact w_var ⟨rfl⟩ | exact w_own ⟨rfl⟩ | exact w_own2 ⟨rfl⟩ | exact w_opt0 | exact w_opt1 | exact w_sl_tup | exact w_sl_lst | apply w_cons | apply w_idx | apply w_cmp | apply w_bin | apply w_b1 | refine' w_b2 ?_ ?_ rfl ?_ | apply w_call | apply w_neg | apply w_tup | apply w_lst | apply w_not | apply w_and | apply w_or | apply w_ife | refine' fun i hi => ⟨_, rfl, ?_⟩ | refine' fun (_ : Eq (α := Bool) _ _) => ?_ | apply w_chain | apply w_rng | apply w_rev | apply w_seq | apply w_yes | apply w_slice | apply w_range1 | refine' w_comp ?_ ?_ | refine' w_compF ?_ ?_ | exact Nat.le_of_ble_eq_true rfl | exact Lad.cap (by assumption) | exact i_tab (by assumption) | exact i_row (by assumption) | (apply i_tab; (first | assumption | solve_by_elim only [*, lt_of_range, lt_of_filt, All.lt, Lad.el, Lad.cl, Rul.lt])) | (apply i_row; (first | assumption | solve_by_elim only [*, lt_of_range, lt_of_filt, All.lt, Lad.el, Lad.cl, Rul.lt])) | exact l_tab | exact l_row | exact it_row | exact c_neN | exact c_eqN | exact c_ltN | exact c_leN | exact c_ne _ _ | exact c_eq _ _ | exact f_any _ _ | exact f_all _ _ | exact l_tup | exact l_lst | exact l_scr | exact f_isiT | exact c_le | exact c_lt | exact c_gt | exact c_ge | exact b_add | exact b_sub | exact f_max | exact f_lstR | exact f_tup | exact f_lst | exact it_tab | exact w_it_tup | exact w_it_lst | refine' And.intro ?_ ?_))
  · rfl
  · (repeat' (first | exact w_int | exact w_bool | exact w_non | exact w_str | exact w_glob | exact w_nil | exact w_no | exact w_var ⟨rfl⟩ | exact w_own ⟨rfl⟩ | exact w_own2 ⟨rfl⟩ | exact w_opt0 | exact w_opt1 | exact w_sl_tup | exact w_sl_lst | apply w_cons | apply w_idx | apply w_cmp | apply w_bin | apply w_b1 | refine' w_b2 ?_ ?_ rfl ?_ | apply w_call | apply w_neg | apply w_tup | apply w_lst | apply w_not | apply w_and | apply w_or | apply w_ife | refine' fun i hi => ⟨_, rfl, ?_⟩ | refine' fun (_ : Eq (α := Bool) _ _) => ?_ | apply w_chain | apply w_rng | apply w_rev | apply w_seq | apply w_yes | apply w_slice | apply w_range1 | refine' w_comp ?_ ?_ | refine' w_compF ?_ ?_ | exact Nat.le_of_ble_eq_true rfl | exact Lad.cap (by assumption) | exact i_tab (by assumption) | exact i_row (by assumption) | (apply i_tab; (first | assumption | solve_by_elim only [*, lt_of_range, lt_of_filt, All.lt, Lad.el, Lad.cl, Rul.lt])) | (apply i_row; (first | assumption | solve_by_elim only [*, lt_of_range, lt_of_filt, All.lt, Lad.el, Lad.cl, Rul.lt])) | exact l_tab | exact l_row | exact it_row | exact c_neN | exact c_eqN | exact c_ltN | exact c_leN | exact c_ne _ _ | exact c_eq _ _ | exact f_any _ _ | exact f_all _ _ | exact l_tup | exact l_lst | exact l_scr | exact f_isiT | exact c_le | exact c_lt | exact c_gt | exact c_ge | exact b_add | exact b_sub | exact f_max | exact f_lstR | exact f_tup | exact f_lst | exact it_tab | exact w_it_tup | exact w_it_lst | refine' And.intro ?_ ?_))
  · exact w_var ⟨rfl⟩
theorem greatest_is (L : Lad n g e) : IsF F_greatest_of [tabV n g] (.int ((top n g e : Nat) : Int)) := by
  refine fun_is rfl ?_
  (repeat' (first | exact joined_is L (fun x hx => List.mem_range.mp hx) w_it_lst | apply t_ret | refine' t_cons (t_asg ?_ rfl) ?_ | apply t_iteR | apply t_check1 | apply t_check | exact w_int | exact w_bool | exact w_non | exact w_str | exact w_glob | exact w_nil | exact w_no | exact w_var ⟨rfl⟩ | exact w_own ⟨rfl⟩ | exact w_own2 ⟨rfl⟩ | exact w_opt0 | exact w_opt1 | exact w_sl_tup | exact w_sl_lst | apply w_cons | apply w_idx | apply w_cmp | apply w_bin | apply w_b1 | refine' w_b2 ?_ ?_ rfl ?_ | apply w_call | apply w_neg | apply w_tup | apply w_lst | apply w_not | apply w_and | apply w_or | apply w_ife | refine' fun i hi => ⟨_, rfl, ?_⟩ | refine' fun (_ : Eq (α := Bool) _ _) => ?_ | apply w_chain | apply w_rng | apply w_rev | apply w_seq | apply w_yes | apply w_slice | apply w_range1 | refine' w_comp ?_ ?_ | refine' w_compF ?_ ?_ | exact Nat.le_of_ble_eq_true rfl | exact Lad.cap (by assumption) | exact i_tab (by assumption) | exact i_row (by assumption) | (apply i_tab; (first | assumption | solve_by_elim only [*, lt_of_range, lt_of_filt, All.lt, Lad.el, Lad.cl, Rul.lt])) | (apply i_row; (first | assumption | solve_by_elim only [*, lt_of_range, lt_of_filt, All.lt, Lad.el, Lad.cl, Rul.lt])) | exact l_tab | exact l_row | exact it_row | exact c_neN | exact c_eqN | exact c_ltN | exact c_leN | exact c_ne _ _ | exact c_eq _ _ | exact f_any _ _ | exact f_all _ _ | exact l_tup | exact l_lst | exact l_scr | exact f_isiT | exact c_le | exact c_lt | exact c_gt | exact c_ge | exact b_add | exact b_sub | exact f_max | exact f_lstR | exact f_tup | exact f_lst | exact it_tab | exact w_it_tup | exact w_it_lst | refine' And.intro ?_ ?_))
end
end Lh
set_option Elab.async false
set_option linter.all false
set_option maxRecDepth 100000
set_option maxHeartbeats 4000000
namespace Lh
open PySem (Str)
theorem ws_map {α : Type} {l : List α} {f : α → Nat} : l.map (fun i => Val.int ((f i : Nat) : Int)) = ws (l.map f) := by
  show _ = (l.map f).map _
  rw [List.map_map]
  rfl
theorem e_lst {v w : List Val} (h : v = w) : Val.lst v = Val.lst w := h ▸ rfl
theorem e_nat {a b : Nat} (h : a = b) : Val.int (a : Int) = Val.int (b : Int) := h ▸ rfl
theorem rng_lt {n : Nat} : ∀ x, x ∈ List.range n → x < n := fun x hx => List.mem_range.mp hx
theorem mem_bel {n b x : Nat} {g : Nat → Nat → Nat} : x ∈ bel n g b ↔ x < n ∧ g x b = b := by
  unfold bel
  rw [List.mem_filter, List.mem_range, decide_eq_true_eq]
theorem top_one {n e : Nat} {g : Nat → Nat → Nat} (L : Lad n g e) {w : Nat} (hw : w < n) : decide (bel n g w = List.range n) = decide (w = top n g e) := by
  rw [decide_eq_decide]
  constructor
  · intro h
    refine (top_is L hw fun x hx => ?_).symm
    have : x ∈ bel n g w := by
      rw [h]
      exact List.mem_range.mpr hx
    exact (mem_bel.mp this).2
  · intro h
    subst h
    exact List.filter_eq_self.mpr fun x hx => decide_eq_true (top_ge L (List.mem_range.mp hx))
/-- drawn worths -/
def draws (ns : List Int) (at' m n : Nat) : List Nat := (List.range m).map fun k => pickN ns (at' + k) n
theorem draws_lt {ns : List Int} {at' m n : Nat} (h : 0 < n) : ∀ x, x ∈ draws ns at' m n → x < n := fun x hx => by
  obtain ⟨k, _, rfl⟩ := List.mem_map.mp hx
  exact pick_lt h
end Lh
set_option Elab.async false
set_option linter.all false
set_option maxRecDepth 100000
set_option maxHeartbeats 4000000
namespace Lh
open PySem (Str)
theorem plain_k02 (ns : List Int) : IsF F_law_k02 [.scr (ns.map .int)] (.bool true) := by
  have hc : cap = 100000 := rfl
  obtain ⟨n, g, h1, h8, hl, hL⟩ := ladder_is (ns := ns) (at' := 0)
  obtain ⟨e, L⟩ := hl.lad (by omega)
  have hT : (List.range n).filter (fun w => decide (bel n g w = List.range n)) = [top n g e] := filter_one (top_lt L) fun w hw => top_one L hw
  obtain ⟨m, hm⟩ : ∃ m, m = pickN ns 19 5 := ⟨_, rfl⟩
  have hm5 : m < 5 := by rw [hm]; exact pick_lt (by decide)
  have P19 : IsF F_law_pick [.scr (ns.map .int), .int 19, .int 5] (.int (m : Int)) := by rw [hm]; exact pick_is rfl rfl (by decide)
  have W := draws_lt (ns := ns) (at' := 20) (m := m) (n := n) (by omega)
  have WR : ∀ x, x ∈ (draws ns 20 m n).reverse → x < n := fun x hx => W x (List.mem_reverse.mp hx)
  refine fun_is rfl (t_cons (t_asg (v := tabV n g) ?_ rfl) (t_cons (t_asg (v := .lst (ws (List.range n))) ?_ rfl) (t_cons (t_asg (v := .int (e : Int)) ?_ rfl) (t_cons (t_asg (v := .lst (ws [top n g e])) ?_ rfl) (t_cons (t_ifN ?_) (t_cons (t_pass (l := List.range n) (φ := fun i => .int ((i : Nat) : Int)) ?_ fun i hi => ⟨_, _, rfl, t_cons (t_ifN ?_) (t_one (t_pass (l := List.range n) (φ := fun i => .int ((i : Nat) : Int)) ?_ fun j hj => ⟨_, _, rfl, t_one (t_ifN ?_), rfl⟩)), rfl⟩)
    (t_cons (t_asg (v := .lst (ws (draws ns 20 m n))) ?_ rfl) (t_cons (t_ifN ?_) (t_ret ?_)))))))))
  · (repeat' (first | exact hL | exact w_int | exact w_bool | exact w_non | exact w_str | exact w_glob | exact w_nil | exact w_no | exact w_var ⟨rfl⟩ | exact w_own ⟨rfl⟩ | exact w_own2 ⟨rfl⟩ | exact w_opt0 | exact w_opt1 | exact w_sl_tup | exact w_sl_lst | apply w_cons | apply w_idx | apply w_cmp | apply w_bin | apply w_b1 | refine' w_b2 ?_ ?_ rfl ?_ | apply w_call | apply w_neg | apply w_tup | apply w_lst | apply w_not | apply w_and | apply w_or | apply w_ife | refine' fun i hi => ⟨_, rfl, ?_⟩ | refine' fun (_ : Eq (α := Bool) _ _) => ?_ | apply w_chain | apply w_rng | apply w_rev | apply w_seq | apply w_yes | apply w_slice | apply w_range1 | refine' w_comp ?_ ?_ | refine' w_compF ?_ ?_ | exact Nat.le_of_ble_eq_true rfl | exact Lad.cap (by assumption) | exact i_tab (by assumption) | exact i_row (by assumption) | (apply i_tab; (first | assumption | solve_by_elim only [*, lt_of_range, lt_of_filt, All.lt, Lad.el, Lad.cl, Rul.lt])) | (apply i_row; (first | assumption | solve_by_elim only [*, lt_of_range, lt_of_filt, All.lt, Lad.el, Lad.cl, Rul.lt])) | exact l_tab | exact l_row | exact it_row | exact c_neN | exact c_eqN | exact c_ltN | exact c_leN | exact c_ne _ _ | exact c_eq _ _ | exact f_any _ _ | exact f_all _ _ | exact l_tup | exact l_lst | exact l_scr | exact f_isiT | exact c_le | exact c_lt | exact c_gt | exact c_ge | exact b_add | exact b_sub | exact f_max | exact f_lstR | exact f_tup | exact f_lst | exact it_tab | exact w_it_tup | exact w_it_lst | refine' And.intro ?_ ?_))
  · (repeat' (first | exact w_int | exact w_bool | exact w_non | exact w_str | exact w_glob | exact w_nil | exact w_no | exact w_var ⟨rfl⟩ | exact w_own ⟨rfl⟩ | exact w_own2 ⟨rfl⟩ | exact w_opt0 | exact w_opt1 | exact w_sl_tup | exact w_sl_lst | apply w_cons | apply w_idx | apply w_cmp | apply w_bin | apply w_b1 | refine' w_b2 ?_ ?_ rfl ?_ | apply w_call | apply w_neg | apply w_tup | apply w_lst | apply w_not | apply w_and | apply w_or | apply w_ife | refine' fun i hi => ⟨_, rfl, ?_⟩ | refine' fun (_ : Eq (α := Bool) _ _) => ?_ | apply w_chain | apply w_rng | apply w_rev | apply w_seq | apply w_yes | apply w_slice | apply w_range1 | refine' w_comp ?_ ?_ | refine' w_compF ?_ ?_ | exact Nat.le_of_ble_eq_true rfl | exact Lad.cap (by assumption) | exact i_tab (by assumption) | exact i_row (by assumption) | (apply i_tab; (first | assumption | solve_by_elim only [*, lt_of_range, lt_of_filt, All.lt, Lad.el, Lad.cl, Rul.lt])) | (apply i_row; (first | assumption | solve_by_elim only [*, lt_of_range, lt_of_filt, All.lt, Lad.el, Lad.cl, Rul.lt])) | exact l_tab | exact l_row | exact it_row | exact c_neN | exact c_eqN | exact c_ltN | exact c_leN | exact c_ne _ _ | exact c_eq _ _ | exact f_any _ _ | exact f_all _ _ | exact l_tup | exact l_lst | exact l_scr | exact f_isiT | exact c_le | exact c_lt | exact c_gt | exact c_ge | exact b_add | exact b_sub | exact f_max | exact f_lstR | exact f_tup | exact f_lst | exact it_tab | exact w_it_tup | exact w_it_lst | refine' And.intro ?_ ?_))
  · (repeat' (first | exact low_is L | exact w_int | exact w_bool | exact w_non | exact w_str | exact w_glob | exact w_nil | exact w_no | exact w_var ⟨rfl⟩ | exact w_own ⟨rfl⟩ | exact w_own2 ⟨rfl⟩ | exact w_opt0 | exact w_opt1 | exact w_sl_tup | exact w_sl_lst | apply w_cons | apply w_idx | apply w_cmp | apply w_bin | apply w_b1 | refine' w_b2 ?_ ?_ rfl ?_ | apply w_call | apply w_neg | apply w_tup | apply w_lst | apply w_not | apply w_and | apply w_or | apply w_ife | refine' fun i hi => ⟨_, rfl, ?_⟩ | refine' fun (_ : Eq (α := Bool) _ _) => ?_ | apply w_chain | apply w_rng | apply w_rev | apply w_seq | apply w_yes | apply w_slice | apply w_range1 | refine' w_comp ?_ ?_ | refine' w_compF ?_ ?_ | exact Nat.le_of_ble_eq_true rfl | exact Lad.cap (by assumption) | exact i_tab (by assumption) | exact i_row (by assumption) | (apply i_tab; (first | assumption | solve_by_elim only [*, lt_of_range, lt_of_filt, All.lt, Lad.el, Lad.cl, Rul.lt])) | (apply i_row; (first | assumption | solve_by_elim only [*, lt_of_range, lt_of_filt, All.lt, Lad.el, Lad.cl, Rul.lt])) | exact l_tab | exact l_row | exact it_row | exact c_neN | exact c_eqN | exact c_ltN | exact c_leN | exact c_ne _ _ | exact c_eq _ _ | exact f_any _ _ | exact f_all _ _ | exact l_tup | exact l_lst | exact l_scr | exact f_isiT | exact c_le | exact c_lt | exact c_gt | exact c_ge | exact b_add | exact b_sub | exact f_max | exact f_lstR | exact f_tup | exact f_lst | exact it_tab | exact w_it_tup | exact w_it_lst | refine' And.intro ?_ ?_))
  · rw [← hT]
    (repeat' (first | exact c_eqW | exact under_is L (lt_of_range (by assumption)) | exact w_int | exact w_bool | exact w_non | exact w_str | exact w_glob | exact w_nil | exact w_no | exact w_var ⟨rfl⟩ | exact w_own ⟨rfl⟩ | exact w_own2 ⟨rfl⟩ | exact w_opt0 | exact w_opt1 | exact w_sl_tup | exact w_sl_lst | apply w_cons | apply w_idx | apply w_cmp | apply w_bin | apply w_b1 | refine' w_b2 ?_ ?_ rfl ?_ | apply w_call | apply w_neg | apply w_tup | apply w_lst | apply w_not | apply w_and | apply w_or | apply w_ife | refine' fun i hi => ⟨_, rfl, ?_⟩ | refine' fun (_ : Eq (α := Bool) _ _) => ?_ | apply w_chain | apply w_rng | apply w_rev | apply w_seq | apply w_yes | apply w_slice | apply w_range1 | refine' w_comp ?_ ?_ | refine' w_compF ?_ ?_ | exact Nat.le_of_ble_eq_true rfl | exact Lad.cap (by assumption) | exact i_tab (by assumption) | exact i_row (by assumption) | (apply i_tab; (first | assumption | solve_by_elim only [*, lt_of_range, lt_of_filt, All.lt, Lad.el, Lad.cl, Rul.lt])) | (apply i_row; (first | assumption | solve_by_elim only [*, lt_of_range, lt_of_filt, All.lt, Lad.el, Lad.cl, Rul.lt])) | exact l_tab | exact l_row | exact it_row | exact c_neN | exact c_eqN | exact c_ltN | exact c_leN | exact c_ne _ _ | exact c_eq _ _ | exact f_any _ _ | exact f_all _ _ | exact l_tup | exact l_lst | exact l_scr | exact f_isiT | exact c_le | exact c_lt | exact c_gt | exact c_ge | exact b_add | exact b_sub | exact f_max | exact f_lstR | exact f_tup | exact f_lst | exact it_tab | exact w_it_tup | exact w_it_lst | refine' And.intro ?_ ?_))
  · (repeat' (first | apply w_orF | exact least_is L | exact greatest_is L | exact c_neSm rfl rfl | exact c_neSm (lay_ws (l := [top n g e])) rfl | exact w_int | exact w_bool | exact w_non | exact w_str | exact w_glob | exact w_nil | exact w_no | exact w_var ⟨rfl⟩ | exact w_own ⟨rfl⟩ | exact w_own2 ⟨rfl⟩ | exact w_opt0 | exact w_opt1 | exact w_sl_tup | exact w_sl_lst | apply w_cons | apply w_idx | apply w_cmp | apply w_bin | apply w_b1 | refine' w_b2 ?_ ?_ rfl ?_ | apply w_call | apply w_neg | apply w_tup | apply w_lst | apply w_not | apply w_and | apply w_or | apply w_ife | refine' fun i hi => ⟨_, rfl, ?_⟩ | refine' fun (_ : Eq (α := Bool) _ _) => ?_ | apply w_chain | apply w_rng | apply w_rev | apply w_seq | apply w_yes | apply w_slice | apply w_range1 | refine' w_comp ?_ ?_ | refine' w_compF ?_ ?_ | exact Nat.le_of_ble_eq_true rfl | exact Lad.cap (by assumption) | exact i_tab (by assumption) | exact i_row (by assumption) | (apply i_tab; (first | assumption | solve_by_elim only [*, lt_of_range, lt_of_filt, All.lt, Lad.el, Lad.cl, Rul.lt])) | (apply i_row; (first | assumption | solve_by_elim only [*, lt_of_range, lt_of_filt, All.lt, Lad.el, Lad.cl, Rul.lt])) | exact l_tab | exact l_row | exact it_row | exact c_neN | exact c_eqN | exact c_ltN | exact c_leN | exact c_ne _ _ | exact c_eq _ _ | exact f_any _ _ | exact f_all _ _ | exact l_tup | exact l_lst | exact l_scr | exact f_isiT | exact c_le | exact c_lt | exact c_gt | exact c_ge | exact b_add | exact b_sub | exact f_max | exact f_lstR | exact f_tup | exact f_lst | exact it_tab | exact w_it_tup | exact w_it_lst | refine' And.intro ?_ ?_))
  · (repeat' (first | exact w_int | exact w_bool | exact w_non | exact w_str | exact w_glob | exact w_nil | exact w_no | exact w_var ⟨rfl⟩ | exact w_own ⟨rfl⟩ | exact w_own2 ⟨rfl⟩ | exact w_opt0 | exact w_opt1 | exact w_sl_tup | exact w_sl_lst | apply w_cons | apply w_idx | apply w_cmp | apply w_bin | apply w_b1 | refine' w_b2 ?_ ?_ rfl ?_ | apply w_call | apply w_neg | apply w_tup | apply w_lst | apply w_not | apply w_and | apply w_or | apply w_ife | refine' fun i hi => ⟨_, rfl, ?_⟩ | refine' fun (_ : Eq (α := Bool) _ _) => ?_ | apply w_chain | apply w_rng | apply w_rev | apply w_seq | apply w_yes | apply w_slice | apply w_range1 | refine' w_comp ?_ ?_ | refine' w_compF ?_ ?_ | exact Nat.le_of_ble_eq_true rfl | exact Lad.cap (by assumption) | exact i_tab (by assumption) | exact i_row (by assumption) | (apply i_tab; (first | assumption | solve_by_elim only [*, lt_of_range, lt_of_filt, All.lt, Lad.el, Lad.cl, Rul.lt])) | (apply i_row; (first | assumption | solve_by_elim only [*, lt_of_range, lt_of_filt, All.lt, Lad.el, Lad.cl, Rul.lt])) | exact l_tab | exact l_row | exact it_row | exact c_neN | exact c_eqN | exact c_ltN | exact c_leN | exact c_ne _ _ | exact c_eq _ _ | exact f_any _ _ | exact f_all _ _ | exact l_tup | exact l_lst | exact l_scr | exact f_isiT | exact c_le | exact c_lt | exact c_gt | exact c_ge | exact b_add | exact b_sub | exact f_max | exact f_lstR | exact f_tup | exact f_lst | exact it_tab | exact w_it_tup | exact w_it_lst | refine' And.intro ?_ ?_))
  · (repeat' (first | exact c_neSm lay_ws rfl | exact below_is L (lt_of_range (by assumption)) | exact under_is L (lt_of_range (by assumption)) | exact w_int | exact w_bool | exact w_non | exact w_str | exact w_glob | exact w_nil | exact w_no | exact w_var ⟨rfl⟩ | exact w_own ⟨rfl⟩ | exact w_own2 ⟨rfl⟩ | exact w_opt0 | exact w_opt1 | exact w_sl_tup | exact w_sl_lst | apply w_cons | apply w_idx | apply w_cmp | apply w_bin | apply w_b1 | refine' w_b2 ?_ ?_ rfl ?_ | apply w_call | apply w_neg | apply w_tup | apply w_lst | apply w_not | apply w_and | apply w_or | apply w_ife | refine' fun i hi => ⟨_, rfl, ?_⟩ | refine' fun (_ : Eq (α := Bool) _ _) => ?_ | apply w_chain | apply w_rng | apply w_rev | apply w_seq | apply w_yes | apply w_slice | apply w_range1 | refine' w_comp ?_ ?_ | refine' w_compF ?_ ?_ | exact Nat.le_of_ble_eq_true rfl | exact Lad.cap (by assumption) | exact i_tab (by assumption) | exact i_row (by assumption) | (apply i_tab; (first | assumption | solve_by_elim only [*, lt_of_range, lt_of_filt, All.lt, Lad.el, Lad.cl, Rul.lt])) | (apply i_row; (first | assumption | solve_by_elim only [*, lt_of_range, lt_of_filt, All.lt, Lad.el, Lad.cl, Rul.lt])) | exact l_tab | exact l_row | exact it_row | exact c_neN | exact c_eqN | exact c_ltN | exact c_leN | exact c_ne _ _ | exact c_eq _ _ | exact f_any _ _ | exact f_all _ _ | exact l_tup | exact l_lst | exact l_scr | exact f_isiT | exact c_le | exact c_lt | exact c_gt | exact c_ge | exact b_add | exact b_sub | exact f_max | exact f_lstR | exact f_tup | exact f_lst | exact it_tab | exact w_it_tup | exact w_it_lst | refine' And.intro ?_ ?_))
  · (repeat' (first | exact w_int | exact w_bool | exact w_non | exact w_str | exact w_glob | exact w_nil | exact w_no | exact w_var ⟨rfl⟩ | exact w_own ⟨rfl⟩ | exact w_own2 ⟨rfl⟩ | exact w_opt0 | exact w_opt1 | exact w_sl_tup | exact w_sl_lst | apply w_cons | apply w_idx | apply w_cmp | apply w_bin | apply w_b1 | refine' w_b2 ?_ ?_ rfl ?_ | apply w_call | apply w_neg | apply w_tup | apply w_lst | apply w_not | apply w_and | apply w_or | apply w_ife | refine' fun i hi => ⟨_, rfl, ?_⟩ | refine' fun (_ : Eq (α := Bool) _ _) => ?_ | apply w_chain | apply w_rng | apply w_rev | apply w_seq | apply w_yes | apply w_slice | apply w_range1 | refine' w_comp ?_ ?_ | refine' w_compF ?_ ?_ | exact Nat.le_of_ble_eq_true rfl | exact Lad.cap (by assumption) | exact i_tab (by assumption) | exact i_row (by assumption) | (apply i_tab; (first | assumption | solve_by_elim only [*, lt_of_range, lt_of_filt, All.lt, Lad.el, Lad.cl, Rul.lt])) | (apply i_row; (first | assumption | solve_by_elim only [*, lt_of_range, lt_of_filt, All.lt, Lad.el, Lad.cl, Rul.lt])) | exact l_tab | exact l_row | exact it_row | exact c_neN | exact c_eqN | exact c_ltN | exact c_leN | exact c_ne _ _ | exact c_eq _ _ | exact f_any _ _ | exact f_all _ _ | exact l_tup | exact l_lst | exact l_scr | exact f_isiT | exact c_le | exact c_lt | exact c_gt | exact c_ge | exact b_add | exact b_sub | exact f_max | exact f_lstR | exact f_tup | exact f_lst | exact it_tab | exact w_it_tup | exact w_it_lst | refine' And.intro ?_ ?_))
  · (repeat' (first | exact is_below_is L (lt_of_range (by assumption)) (lt_of_range (by assumption)) | exact c_neSm rfl rfl | exact w_int | exact w_bool | exact w_non | exact w_str | exact w_glob | exact w_nil | exact w_no | exact w_var ⟨rfl⟩ | exact w_own ⟨rfl⟩ | exact w_own2 ⟨rfl⟩ | exact w_opt0 | exact w_opt1 | exact w_sl_tup | exact w_sl_lst | apply w_cons | apply w_idx | apply w_cmp | apply w_bin | apply w_b1 | refine' w_b2 ?_ ?_ rfl ?_ | apply w_call | apply w_neg | apply w_tup | apply w_lst | apply w_not | apply w_and | apply w_or | apply w_ife | refine' fun i hi => ⟨_, rfl, ?_⟩ | refine' fun (_ : Eq (α := Bool) _ _) => ?_ | apply w_chain | apply w_rng | apply w_rev | apply w_seq | apply w_yes | apply w_slice | apply w_range1 | refine' w_comp ?_ ?_ | refine' w_compF ?_ ?_ | exact Nat.le_of_ble_eq_true rfl | exact Lad.cap (by assumption) | exact i_tab (by assumption) | exact i_row (by assumption) | (apply i_tab; (first | assumption | solve_by_elim only [*, lt_of_range, lt_of_filt, All.lt, Lad.el, Lad.cl, Rul.lt])) | (apply i_row; (first | assumption | solve_by_elim only [*, lt_of_range, lt_of_filt, All.lt, Lad.el, Lad.cl, Rul.lt])) | exact l_tab | exact l_row | exact it_row | exact c_neN | exact c_eqN | exact c_ltN | exact c_leN | exact c_ne _ _ | exact c_eq _ _ | exact f_any _ _ | exact f_all _ _ | exact l_tup | exact l_lst | exact l_scr | exact f_isiT | exact c_le | exact c_lt | exact c_gt | exact c_ge | exact b_add | exact b_sub | exact f_max | exact f_lstR | exact f_tup | exact f_lst | exact it_tab | exact w_it_tup | exact w_it_lst | refine' And.intro ?_ ?_))
  · refine IsE.of (v := .lst ((List.range m).map fun k => .int ((pickN ns (20 + k) n : Nat) : Int))) ?_ (e_lst ws_map)
    have hmc : m ≤ cap := by omega
    (repeat' (first | exact hmc | exact P19 | exact pick_is rfl rfl h1 | exact w_int | exact w_bool | exact w_non | exact w_str | exact w_glob | exact w_nil | exact w_no | exact w_var ⟨rfl⟩ | exact w_own ⟨rfl⟩ | exact w_own2 ⟨rfl⟩ | exact w_opt0 | exact w_opt1 | exact w_sl_tup | exact w_sl_lst | apply w_cons | apply w_idx | apply w_cmp | apply w_bin | apply w_b1 | refine' w_b2 ?_ ?_ rfl ?_ | apply w_call | apply w_neg | apply w_tup | apply w_lst | apply w_not | apply w_and | apply w_or | apply w_ife | refine' fun i hi => ⟨_, rfl, ?_⟩ | refine' fun (_ : Eq (α := Bool) _ _) => ?_ | apply w_chain | apply w_rng | apply w_rev | apply w_seq | apply w_yes | apply w_slice | apply w_range1 | refine' w_comp ?_ ?_ | refine' w_compF ?_ ?_ | exact Nat.le_of_ble_eq_true rfl | exact Lad.cap (by assumption) | exact i_tab (by assumption) | exact i_row (by assumption) | (apply i_tab; (first | assumption | solve_by_elim only [*, lt_of_range, lt_of_filt, All.lt, Lad.el, Lad.cl, Rul.lt])) | (apply i_row; (first | assumption | solve_by_elim only [*, lt_of_range, lt_of_filt, All.lt, Lad.el, Lad.cl, Rul.lt])) | exact l_tab | exact l_row | exact it_row | exact c_neN | exact c_eqN | exact c_ltN | exact c_leN | exact c_ne _ _ | exact c_eq _ _ | exact f_any _ _ | exact f_all _ _ | exact l_tup | exact l_lst | exact l_scr | exact f_isiT | exact c_le | exact c_lt | exact c_gt | exact c_ge | exact b_add | exact b_sub | exact f_max | exact f_lstR | exact f_tup | exact f_lst | exact it_tab | exact w_it_tup | exact w_it_lst | refine' And.intro ?_ ?_))
  · (repeat' (first | apply w_orF | exact joined_is L W w_it_lst | exact join_is L W w_it_lst | exact joined_is L (l := []) (fun x hx => absurd hx List.not_mem_nil) w_it_lst | exact c_neSm rfl rfl | exact Nat.zero_le _ | exact w_int | exact w_bool | exact w_non | exact w_str | exact w_glob | exact w_nil | exact w_no | exact w_var ⟨rfl⟩ | exact w_own ⟨rfl⟩ | exact w_own2 ⟨rfl⟩ | exact w_opt0 | exact w_opt1 | exact w_sl_tup | exact w_sl_lst | apply w_cons | apply w_idx | apply w_cmp | apply w_bin | apply w_b1 | refine' w_b2 ?_ ?_ rfl ?_ | apply w_call | apply w_neg | apply w_tup | apply w_lst | apply w_not | apply w_and | apply w_or | apply w_ife | refine' fun i hi => ⟨_, rfl, ?_⟩ | refine' fun (_ : Eq (α := Bool) _ _) => ?_ | apply w_chain | apply w_rng | apply w_rev | apply w_seq | apply w_yes | apply w_slice | apply w_range1 | refine' w_comp ?_ ?_ | refine' w_compF ?_ ?_ | exact Nat.le_of_ble_eq_true rfl | exact Lad.cap (by assumption) | exact i_tab (by assumption) | exact i_row (by assumption) | (apply i_tab; (first | assumption | solve_by_elim only [*, lt_of_range, lt_of_filt, All.lt, Lad.el, Lad.cl, Rul.lt])) | (apply i_row; (first | assumption | solve_by_elim only [*, lt_of_range, lt_of_filt, All.lt, Lad.el, Lad.cl, Rul.lt])) | exact l_tab | exact l_row | exact it_row | exact c_neN | exact c_eqN | exact c_ltN | exact c_leN | exact c_ne _ _ | exact c_eq _ _ | exact f_any _ _ | exact f_all _ _ | exact l_tup | exact l_lst | exact l_scr | exact f_isiT | exact c_le | exact c_lt | exact c_gt | exact c_ge | exact b_add | exact b_sub | exact f_max | exact f_lstR | exact f_tup | exact f_lst | exact it_tab | exact w_it_tup | exact w_it_lst | refine' And.intro ?_ ?_))
  · have e2 : jn g e (draws ns 20 m n).reverse = jn g e (draws ns 20 m n) := jn_same L WR W fun x => List.mem_reverse
    (repeat' (first | apply w_andT | exact IsE.of (w_rev (w_var ⟨rfl⟩)) (e_lst (w := ws (draws ns 20 m n).reverse) List.map_reverse.symm) | exact joined_is L W w_it_lst | exact joined_is L WR w_it_lst | exact joined_is L (l := List.range n) rng_lt w_it_lst | exact i_lst0 rfl | exact c_eqSm rfl rfl | exact c_eqSm rfl (e_nat e2) | exact w_int | exact w_bool | exact w_non | exact w_str | exact w_glob | exact w_nil | exact w_no | exact w_var ⟨rfl⟩ | exact w_own ⟨rfl⟩ | exact w_own2 ⟨rfl⟩ | exact w_opt0 | exact w_opt1 | exact w_sl_tup | exact w_sl_lst | apply w_cons | apply w_idx | apply w_cmp | apply w_bin | apply w_b1 | refine' w_b2 ?_ ?_ rfl ?_ | apply w_call | apply w_neg | apply w_tup | apply w_lst | apply w_not | apply w_and | apply w_or | apply w_ife | refine' fun i hi => ⟨_, rfl, ?_⟩ | refine' fun (_ : Eq (α := Bool) _ _) => ?_ | apply w_chain | apply w_rng | apply w_rev | apply w_seq | apply w_yes | apply w_slice | apply w_range1 | refine' w_comp ?_ ?_ | refine' w_compF ?_ ?_ | exact Nat.le_of_ble_eq_true rfl | exact Lad.cap (by assumption) | exact i_tab (by assumption) | exact i_row (by assumption) | (apply i_tab; (first | assumption | solve_by_elim only [*, lt_of_range, lt_of_filt, All.lt, Lad.el, Lad.cl, Rul.lt])) | (apply i_row; (first | assumption | solve_by_elim only [*, lt_of_range, lt_of_filt, All.lt, Lad.el, Lad.cl, Rul.lt])) | exact l_tab | exact l_row | exact it_row | exact c_neN | exact c_eqN | exact c_ltN | exact c_leN | exact c_ne _ _ | exact c_eq _ _ | exact f_any _ _ | exact f_all _ _ | exact l_tup | exact l_lst | exact l_scr | exact f_isiT | exact c_le | exact c_lt | exact c_gt | exact c_ge | exact b_add | exact b_sub | exact f_max | exact f_lstR | exact f_tup | exact f_lst | exact it_tab | exact w_it_tup | exact w_it_lst | refine' And.intro ?_ ?_))
end Lh
set_option Elab.async false
set_option linter.all false
set_option maxRecDepth 100000
set_option maxHeartbeats 0
namespace LhEnd
open PySem PySem.Spec PyProof.Rows L2 Lh
section
variable {P : Program} {w : World} {K : PySem.W.Frag} {mg : Str → Option Value} {base : Heap} {f : Addr} {fd : FuncData}
def n_least_of : List Str := ["ladder", "worth"]
def p_least_of : List Str := ["ladder"]
theorem m_least_of : (wfSs d_least_of.body && mSs n_least_of (defScope (top 1)) d_least_of.body (defBody (top 1))) = true := by decide +kernel
theorem s_least_of : FnScope n_least_of p_least_of (defScope (top 1)) := ⟨rfl, rfl, rfl, by decide +kernel, rfl, by decide +kernel, by decide +kernel⟩
theorem o_least_of (F : FunD K "least_of" "least_of" (defArgs (top 1)) (defBody (top 1)) (defScope (top 1)) [] [] f fd) (hb : ∀ y ∈ bNames, mg y = none)  : FnOk P w K mg base (L2.CX P w) 1 f fd p_least_of (PSp K mg F_least_of) := by
  obtain ⟨m1, m2⟩ := Lh.ba m_least_of
  refine fn_ok d_least_of F s_least_of m1 m2 hb ?_
  repeat' (first | exact True.intro | assumption | refine And.intro ?_ ?_)
theorem b_least_of (F : FunD K "least_of" "least_of" (defArgs (top 1)) (defBody (top 1)) (defScope (top 1)) [] [] f fd) : Binds K fd p_least_of [] := F.bindsN fun _ _ _ _ _ _ us hl => match us, hl with | [_], _ => rfl
def n_joined_all : List Str := ["ladder", "worths", "made", "worth"]
def p_joined_all : List Str := ["ladder", "worths"]
theorem m_joined_all : (wfSs d_joined_all.body && mSs n_joined_all (defScope (top 2)) d_joined_all.body (defBody (top 2))) = true := by decide +kernel
theorem s_joined_all : FnScope n_joined_all p_joined_all (defScope (top 2)) := ⟨rfl, rfl, rfl, by decide +kernel, rfl, by decide +kernel, by decide +kernel⟩
theorem o_joined_all (F : FunD K "joined_all" "joined_all" (defArgs (top 2)) (defBody (top 2)) (defScope (top 2)) [] [] f fd) (hb : ∀ y ∈ bNames, mg y = none) (h_least_of : HasL P w K mg base 1 "least_of" F_least_of) : FnOk P w K mg base (L2.CX P w) 2 f fd p_joined_all (PSp K mg F_joined_all) := by
  have h_least_of := h_least_of.up (l := 1) (by first | decide | omega)
  obtain ⟨m1, m2⟩ := Lh.ba m_joined_all
  refine fn_ok d_joined_all F s_joined_all m1 m2 hb ?_
  repeat' (first | exact True.intro | assumption | refine And.intro ?_ ?_)
theorem b_joined_all (F : FunD K "joined_all" "joined_all" (defArgs (top 2)) (defBody (top 2)) (defScope (top 2)) [] [] f fd) : Binds K fd p_joined_all [] := F.bindsN fun _ _ _ _ _ _ us hl => match us, hl with | [_, _], _ => rfl
def n_greatest_of : List Str := ["ladder"]
def p_greatest_of : List Str := ["ladder"]
theorem m_greatest_of : (wfSs d_greatest_of.body && mSs n_greatest_of (defScope (top 3)) d_greatest_of.body (defBody (top 3))) = true := by decide +kernel
theorem s_greatest_of : FnScope n_greatest_of p_greatest_of (defScope (top 3)) := ⟨rfl, rfl, rfl, by decide +kernel, rfl, by decide +kernel, by decide +kernel⟩
theorem o_greatest_of (F : FunD K "greatest_of" "greatest_of" (defArgs (top 3)) (defBody (top 3)) (defScope (top 3)) [] [] f fd) (hb : ∀ y ∈ bNames, mg y = none) (h_joined_all : HasL P w K mg base 2 "joined_all" F_joined_all) : FnOk P w K mg base (L2.CX P w) 3 f fd p_greatest_of (PSp K mg F_greatest_of) := by
  have h_joined_all := h_joined_all.up (l := 2) (by first | decide | omega)
  obtain ⟨m1, m2⟩ := Lh.ba m_greatest_of
  refine fn_ok d_greatest_of F s_greatest_of m1 m2 hb ?_
  repeat' (first | exact True.intro | assumption | refine And.intro ?_ ?_)
theorem b_greatest_of (F : FunD K "greatest_of" "greatest_of" (defArgs (top 3)) (defBody (top 3)) (defScope (top 3)) [] [] f fd) : Binds K fd p_greatest_of [] := F.bindsN fun _ _ _ _ _ _ us hl => match us, hl with | [_], _ => rfl
def n_is_below : List Str := ["ladder", "one", "other"]
def p_is_below : List Str := ["ladder", "one", "other"]
theorem m_is_below : (wfSs d_is_below.body && mSs n_is_below (defScope (top 4)) d_is_below.body (defBody (top 4))) = true := by decide +kernel
theorem s_is_below : FnScope n_is_below p_is_below (defScope (top 4)) := ⟨rfl, rfl, rfl, by decide +kernel, rfl, by decide +kernel, by decide +kernel⟩
theorem o_is_below (F : FunD K "is_below" "is_below" (defArgs (top 4)) (defBody (top 4)) (defScope (top 4)) [] [] f fd) (hb : ∀ y ∈ bNames, mg y = none)  : FnOk P w K mg base (L2.CX P w) 1 f fd p_is_below (PSp K mg F_is_below) := by
  obtain ⟨m1, m2⟩ := Lh.ba m_is_below
  refine fn_ok d_is_below F s_is_below m1 m2 hb ?_
  repeat' (first | exact True.intro | assumption | refine And.intro ?_ ?_)
theorem b_is_below (F : FunD K "is_below" "is_below" (defArgs (top 4)) (defBody (top 4)) (defScope (top 4)) [] [] f fd) : Binds K fd p_is_below [] := F.bindsN fun _ _ _ _ _ _ us hl => match us, hl with | [_, _, _], _ => rfl
def n_below : List Str := ["ladder", "worth", "one"]
def p_below : List Str := ["ladder", "worth"]
theorem m_below : (wfSs d_below.body && mSs n_below (defScope (top 5)) d_below.body (defBody (top 5))) = true := by decide +kernel
theorem s_below : FnScope n_below p_below (defScope (top 5)) := ⟨rfl, rfl, rfl, by decide +kernel, rfl, by decide +kernel, by decide +kernel⟩
theorem o_below (F : FunD K "below" "below" (defArgs (top 5)) (defBody (top 5)) (defScope (top 5)) [] [] f fd) (hb : ∀ y ∈ bNames, mg y = none) (h_is_below : HasL P w K mg base 1 "is_below" F_is_below) : FnOk P w K mg base (L2.CX P w) 2 f fd p_below (PSp K mg F_below) := by
  have h_is_below := h_is_below.up (l := 1) (by first | decide | omega)
  obtain ⟨m1, m2⟩ := Lh.ba m_below
  refine fn_ok d_below F s_below m1 m2 hb ?_
  repeat' (first | exact True.intro | assumption | refine And.intro ?_ ?_)
theorem b_below (F : FunD K "below" "below" (defArgs (top 5)) (defBody (top 5)) (defScope (top 5)) [] [] f fd) : Binds K fd p_below [] := F.bindsN fun _ _ _ _ _ _ us hl => match us, hl with | [_, _], _ => rfl
def n_law_cell : List Str := ["_law_script", "_law_k"]
def p_law_cell : List Str := ["_law_script", "_law_k"]
theorem m_law_cell : (wfSs d_law_cell.body && mSs n_law_cell (defScope (top 7)) d_law_cell.body (defBody (top 7))) = true := by decide +kernel
theorem s_law_cell : FnScope n_law_cell p_law_cell (defScope (top 7)) := ⟨rfl, rfl, rfl, by decide +kernel, rfl, by decide +kernel, by decide +kernel⟩
theorem o_law_cell (F : FunD K "_law_cell" "_law_cell" (defArgs (top 7)) (defBody (top 7)) (defScope (top 7)) [] [] f fd) (hb : ∀ y ∈ bNames, mg y = none)  : FnOk P w K mg base (L2.CX P w) 1 f fd p_law_cell (PSp K mg F_law_cell) := by
  obtain ⟨m1, m2⟩ := Lh.ba m_law_cell
  refine fn_ok d_law_cell F s_law_cell m1 m2 hb ?_
  repeat' (first | exact True.intro | assumption | refine And.intro ?_ ?_)
theorem b_law_cell (F : FunD K "_law_cell" "_law_cell" (defArgs (top 7)) (defBody (top 7)) (defScope (top 7)) [] [] f fd) : Binds K fd p_law_cell [] := F.bindsN fun _ _ _ _ _ _ us hl => match us, hl with | [_, _], _ => rfl
def n_law_pick : List Str := ["_law_script", "_law_k", "_law_many", "_law_drawn"]
def p_law_pick : List Str := ["_law_script", "_law_k", "_law_many"]
theorem m_law_pick : (wfSs d_law_pick.body && mSs n_law_pick (defScope (top 8)) d_law_pick.body (defBody (top 8))) = true := by decide +kernel
theorem s_law_pick : FnScope n_law_pick p_law_pick (defScope (top 8)) := ⟨rfl, rfl, rfl, by decide +kernel, rfl, by decide +kernel, by decide +kernel⟩
theorem o_law_pick (F : FunD K "_law_pick" "_law_pick" (defArgs (top 8)) (defBody (top 8)) (defScope (top 8)) [] [] f fd) (hb : ∀ y ∈ bNames, mg y = none) (h_law_cell : HasL P w K mg base 1 "_law_cell" F_law_cell) : FnOk P w K mg base (L2.CX P w) 2 f fd p_law_pick (PSp K mg F_law_pick) := by
  have h_law_cell := h_law_cell.up (l := 1) (by first | decide | omega)
  obtain ⟨m1, m2⟩ := Lh.ba m_law_pick
  refine fn_ok d_law_pick F s_law_pick m1 m2 hb ?_
  repeat' (first | exact True.intro | assumption | refine And.intro ?_ ?_)
theorem b_law_pick (F : FunD K "_law_pick" "_law_pick" (defArgs (top 8)) (defBody (top 8)) (defScope (top 8)) [] [] f fd) : Binds K fd p_law_pick [] := F.bindsN fun _ _ _ _ _ _ us hl => match us, hl with | [_, _, _], _ => rfl
def n_law_chain : List Str := ["_law_many", "_law_one", "_law_other"]
def p_law_chain : List Str := ["_law_many"]
theorem m_law_chain : (wfSs d_law_chain.body && mSs n_law_chain (defScope (top 9)) d_law_chain.body (defBody (top 9))) = true := by decide +kernel
theorem s_law_chain : FnScope n_law_chain p_law_chain (defScope (top 9)) := ⟨rfl, rfl, rfl, by decide +kernel, rfl, by decide +kernel, by decide +kernel⟩
theorem o_law_chain (F : FunD K "_law_chain" "_law_chain" (defArgs (top 9)) (defBody (top 9)) (defScope (top 9)) [] [] f fd) (hb : ∀ y ∈ bNames, mg y = none)  : FnOk P w K mg base (L2.CX P w) 1 f fd p_law_chain (PSp K mg F_law_chain) := by
  obtain ⟨m1, m2⟩ := Lh.ba m_law_chain
  refine fn_ok d_law_chain F s_law_chain m1 m2 hb ?_
  repeat' (first | exact True.intro | assumption | refine And.intro ?_ ?_)
theorem b_law_chain (F : FunD K "_law_chain" "_law_chain" (defArgs (top 9)) (defBody (top 9)) (defScope (top 9)) [] [] f fd) : Binds K fd p_law_chain [] := F.bindsN fun _ _ _ _ _ _ us hl => match us, hl with | [_], _ => rfl
def n_law_couples : List Str := ["_law_one", "_law_other", "_law_many", "_law_made", "_law_first", "_law_here", "_law_there", "_law_row"]
def p_law_couples : List Str := ["_law_one", "_law_other"]
theorem m_law_couples : (wfSs d_law_couples.body && mSs n_law_couples (defScope (top 10)) d_law_couples.body (defBody (top 10))) = true := by decide +kernel
theorem s_law_couples : FnScope n_law_couples p_law_couples (defScope (top 10)) := ⟨rfl, rfl, rfl, by decide +kernel, rfl, by decide +kernel, by decide +kernel⟩
theorem o_law_couples (F : FunD K "_law_couples" "_law_couples" (defArgs (top 10)) (defBody (top 10)) (defScope (top 10)) [] [] f fd) (hb : ∀ y ∈ bNames, mg y = none)  : FnOk P w K mg base (L2.CX P w) 1 f fd p_law_couples (PSp K mg F_law_couples) := by
  obtain ⟨m1, m2⟩ := Lh.ba m_law_couples
  refine fn_ok d_law_couples F s_law_couples m1 m2 hb ?_
  repeat' (first | exact True.intro | assumption | refine And.intro ?_ ?_)
theorem b_law_couples (F : FunD K "_law_couples" "_law_couples" (defArgs (top 10)) (defBody (top 10)) (defScope (top 10)) [] [] f fd) : Binds K fd p_law_couples [] := F.bindsN fun _ _ _ _ _ _ us hl => match us, hl with | [_, _], _ => rfl
def n_law_side_by_side : List Str := ["_law_many", "_law_made", "_law_one", "_law_other", "_law_row"]
def p_law_side_by_side : List Str := ["_law_many"]
theorem m_law_side_by_side : (wfSs d_law_side_by_side.body && mSs n_law_side_by_side (defScope (top 11)) d_law_side_by_side.body (defBody (top 11))) = true := by decide +kernel
theorem s_law_side_by_side : FnScope n_law_side_by_side p_law_side_by_side (defScope (top 11)) := ⟨rfl, rfl, rfl, by decide +kernel, rfl, by decide +kernel, by decide +kernel⟩
theorem o_law_side_by_side (F : FunD K "_law_side_by_side" "_law_side_by_side" (defArgs (top 11)) (defBody (top 11)) (defScope (top 11)) [] [] f fd) (hb : ∀ y ∈ bNames, mg y = none)  : FnOk P w K mg base (L2.CX P w) 1 f fd p_law_side_by_side (PSp K mg F_law_side_by_side) := by
  obtain ⟨m1, m2⟩ := Lh.ba m_law_side_by_side
  refine fn_ok d_law_side_by_side F s_law_side_by_side m1 m2 hb ?_
  repeat' (first | exact True.intro | assumption | refine And.intro ?_ ?_)
theorem b_law_side_by_side (F : FunD K "_law_side_by_side" "_law_side_by_side" (defArgs (top 11)) (defBody (top 11)) (defScope (top 11)) [] [] f fd) : Binds K fd p_law_side_by_side [] := F.bindsN fun _ _ _ _ _ _ us hl => match us, hl with | [_], _ => rfl
def n_law_base : List Str := ["_law_script", "_law_at", "_law_kind", "_law_rows"]
def p_law_base : List Str := ["_law_script", "_law_at"]
theorem m_law_base : (wfSs d_law_base.body && mSs n_law_base (defScope (top 12)) d_law_base.body (defBody (top 12))) = true := by decide +kernel
theorem s_law_base : FnScope n_law_base p_law_base (defScope (top 12)) := ⟨rfl, rfl, rfl, by decide +kernel, rfl, by decide +kernel, by decide +kernel⟩
theorem o_law_base (F : FunD K "_law_base" "_law_base" (defArgs (top 12)) (defBody (top 12)) (defScope (top 12)) [] [] f fd) (hb : ∀ y ∈ bNames, mg y = none) (h_law_pick : HasL P w K mg base 2 "_law_pick" F_law_pick) (h_law_chain : HasL P w K mg base 1 "_law_chain" F_law_chain) (h_law_couples : HasL P w K mg base 1 "_law_couples" F_law_couples) (h_law_side_by_side : HasL P w K mg base 1 "_law_side_by_side" F_law_side_by_side) : FnOk P w K mg base (L2.CX P w) 3 f fd p_law_base (PSp K mg F_law_base) := by
  have h_law_pick := h_law_pick.up (l := 2) (by first | decide | omega)
  have h_law_chain := h_law_chain.up (l := 2) (by first | decide | omega)
  have h_law_couples := h_law_couples.up (l := 2) (by first | decide | omega)
  have h_law_side_by_side := h_law_side_by_side.up (l := 2) (by first | decide | omega)
  obtain ⟨m1, m2⟩ := Lh.ba m_law_base
  refine fn_ok d_law_base F s_law_base m1 m2 hb ?_
  repeat' (first | exact True.intro | assumption | refine And.intro ?_ ?_)
theorem b_law_base (F : FunD K "_law_base" "_law_base" (defArgs (top 12)) (defBody (top 12)) (defScope (top 12)) [] [] f fd) : Binds K fd p_law_base [] := F.bindsN fun _ _ _ _ _ _ us hl => match us, hl with | [_, _], _ => rfl
def n_law_ladder : List Str := ["_law_script", "_law_at", "_law_base_here", "_law_left", "_law_k", "_law_name", "_law_row", "_law_made", "_law_one", "_law_other"]
def p_law_ladder : List Str := ["_law_script", "_law_at"]
theorem m_law_ladder : (wfSs d_law_ladder.body && mSs n_law_ladder (defScope (top 13)) d_law_ladder.body (defBody (top 13))) = true := by decide +kernel
theorem s_law_ladder : FnScope n_law_ladder p_law_ladder (defScope (top 13)) := ⟨rfl, rfl, rfl, by decide +kernel, rfl, by decide +kernel, by decide +kernel⟩
theorem o_law_ladder (F : FunD K "_law_ladder" "_law_ladder" (defArgs (top 13)) (defBody (top 13)) (defScope (top 13)) [] [] f fd) (hb : ∀ y ∈ bNames, mg y = none) (h_law_base : HasL P w K mg base 3 "_law_base" F_law_base) (h_law_pick : HasL P w K mg base 2 "_law_pick" F_law_pick) : FnOk P w K mg base (L2.CX P w) 4 f fd p_law_ladder (PSp K mg F_law_ladder) := by
  have h_law_base := h_law_base.up (l := 3) (by first | decide | omega)
  have h_law_pick := h_law_pick.up (l := 3) (by first | decide | omega)
  obtain ⟨m1, m2⟩ := Lh.ba m_law_ladder
  refine fn_ok d_law_ladder F s_law_ladder m1 m2 hb ?_
  repeat' (first | exact True.intro | assumption | refine And.intro ?_ ?_)
theorem b_law_ladder (F : FunD K "_law_ladder" "_law_ladder" (defArgs (top 13)) (defBody (top 13)) (defScope (top 13)) [] [] f fd) : Binds K fd p_law_ladder [] := F.bindsN fun _ _ _ _ _ _ us hl => match us, hl with | [_, _], _ => rfl
def n_law_low : List Str := ["_law_ladder_here", "_law_worth"]
def p_law_low : List Str := ["_law_ladder_here"]
theorem m_law_low : (wfSs d_law_low.body && mSs n_law_low (defScope (top 14)) d_law_low.body (defBody (top 14))) = true := by decide +kernel
theorem s_law_low : FnScope n_law_low p_law_low (defScope (top 14)) := ⟨rfl, rfl, rfl, by decide +kernel, rfl, by decide +kernel, by decide +kernel⟩
theorem o_law_low (F : FunD K "_law_low" "_law_low" (defArgs (top 14)) (defBody (top 14)) (defScope (top 14)) [] [] f fd) (hb : ∀ y ∈ bNames, mg y = none)  : FnOk P w K mg base (L2.CX P w) 1 f fd p_law_low (PSp K mg F_law_low) := by
  obtain ⟨m1, m2⟩ := Lh.ba m_law_low
  refine fn_ok d_law_low F s_law_low m1 m2 hb ?_
  repeat' (first | exact True.intro | assumption | refine And.intro ?_ ?_)
theorem b_law_low (F : FunD K "_law_low" "_law_low" (defArgs (top 14)) (defBody (top 14)) (defScope (top 14)) [] [] f fd) : Binds K fd p_law_low [] := F.bindsN fun _ _ _ _ _ _ us hl => match us, hl with | [_], _ => rfl
def n_law_join : List Str := ["_law_ladder_here", "_law_worths", "_law_here", "_law_worth"]
def p_law_join : List Str := ["_law_ladder_here", "_law_worths"]
theorem m_law_join : (wfSs d_law_join.body && mSs n_law_join (defScope (top 15)) d_law_join.body (defBody (top 15))) = true := by decide +kernel
theorem s_law_join : FnScope n_law_join p_law_join (defScope (top 15)) := ⟨rfl, rfl, rfl, by decide +kernel, rfl, by decide +kernel, by decide +kernel⟩
theorem o_law_join (F : FunD K "_law_join" "_law_join" (defArgs (top 15)) (defBody (top 15)) (defScope (top 15)) [] [] f fd) (hb : ∀ y ∈ bNames, mg y = none) (h_law_low : HasL P w K mg base 1 "_law_low" F_law_low) : FnOk P w K mg base (L2.CX P w) 2 f fd p_law_join (PSp K mg F_law_join) := by
  have h_law_low := h_law_low.up (l := 1) (by first | decide | omega)
  obtain ⟨m1, m2⟩ := Lh.ba m_law_join
  refine fn_ok d_law_join F s_law_join m1 m2 hb ?_
  repeat' (first | exact True.intro | assumption | refine And.intro ?_ ?_)
theorem b_law_join (F : FunD K "_law_join" "_law_join" (defArgs (top 15)) (defBody (top 15)) (defScope (top 15)) [] [] f fd) : Binds K fd p_law_join [] := F.bindsN fun _ _ _ _ _ _ us hl => match us, hl with | [_, _], _ => rfl
def n_law_under : List Str := ["_law_ladder_here", "_law_worth", "_law_one"]
def p_law_under : List Str := ["_law_ladder_here", "_law_worth"]
theorem m_law_under : (wfSs d_law_under.body && mSs n_law_under (defScope (top 16)) d_law_under.body (defBody (top 16))) = true := by decide +kernel
theorem s_law_under : FnScope n_law_under p_law_under (defScope (top 16)) := ⟨rfl, rfl, rfl, by decide +kernel, rfl, by decide +kernel, by decide +kernel⟩
theorem o_law_under (F : FunD K "_law_under" "_law_under" (defArgs (top 16)) (defBody (top 16)) (defScope (top 16)) [] [] f fd) (hb : ∀ y ∈ bNames, mg y = none)  : FnOk P w K mg base (L2.CX P w) 1 f fd p_law_under (PSp K mg F_law_under) := by
  obtain ⟨m1, m2⟩ := Lh.ba m_law_under
  refine fn_ok d_law_under F s_law_under m1 m2 hb ?_
  repeat' (first | exact True.intro | assumption | refine And.intro ?_ ?_)
theorem b_law_under (F : FunD K "_law_under" "_law_under" (defArgs (top 16)) (defBody (top 16)) (defScope (top 16)) [] [] f fd) : Binds K fd p_law_under [] := F.bindsN fun _ _ _ _ _ _ us hl => match us, hl with | [_, _], _ => rfl
def n_law_k02 : List Str := ["_law_script", "_law_ladder_here", "_law_every", "_law_low_here", "_law_worth", "_law_high", "_law_one", "_law_other", "_law_k", "_law_worths"]
def p_law_k02 : List Str := ["_law_script"]
theorem m_law_k02 : (wfSs d_law_k02.body && mSs n_law_k02 (defScope (top 17)) d_law_k02.body (defBody (top 17))) = true := by decide +kernel
theorem s_law_k02 : FnScope n_law_k02 p_law_k02 (defScope (top 17)) := ⟨rfl, rfl, rfl, by decide +kernel, rfl, by decide +kernel, by decide +kernel⟩
theorem o_law_k02 (F : FunD K "law" "law" (defArgs (top 17)) (defBody (top 17)) (defScope (top 17)) [] [] f fd) (hb : ∀ y ∈ bNames, mg y = none) (h_law_ladder : HasL P w K mg base 4 "_law_ladder" F_law_ladder) (h_law_low : HasL P w K mg base 1 "_law_low" F_law_low) (h_law_under : HasL P w K mg base 1 "_law_under" F_law_under) (h_least_of : HasL P w K mg base 1 "least_of" F_least_of) (h_greatest_of : HasL P w K mg base 3 "greatest_of" F_greatest_of) (h_below : HasL P w K mg base 2 "below" F_below) (h_is_below : HasL P w K mg base 1 "is_below" F_is_below) (h_law_pick : HasL P w K mg base 2 "_law_pick" F_law_pick) (h_joined_all : HasL P w K mg base 2 "joined_all" F_joined_all) (h_law_join : HasL P w K mg base 2 "_law_join" F_law_join) : FnOk P w K mg base (L2.CX P w) 5 f fd p_law_k02 (PSp K mg F_law_k02) := by
  have h_law_ladder := h_law_ladder.up (l := 4) (by first | decide | omega)
  have h_law_low := h_law_low.up (l := 4) (by first | decide | omega)
  have h_law_under := h_law_under.up (l := 4) (by first | decide | omega)
  have h_least_of := h_least_of.up (l := 4) (by first | decide | omega)
  have h_greatest_of := h_greatest_of.up (l := 4) (by first | decide | omega)
  have h_below := h_below.up (l := 4) (by first | decide | omega)
  have h_is_below := h_is_below.up (l := 4) (by first | decide | omega)
  have h_law_pick := h_law_pick.up (l := 4) (by first | decide | omega)
  have h_joined_all := h_joined_all.up (l := 4) (by first | decide | omega)
  have h_law_join := h_law_join.up (l := 4) (by first | decide | omega)
  obtain ⟨m1, m2⟩ := Lh.ba m_law_k02
  refine fn_ok d_law_k02 F s_law_k02 m1 m2 hb ?_
  repeat' (first | exact True.intro | assumption | refine And.intro ?_ ?_)
end
theorem facts {P : Program} {w : World} {K : PySem.W.Frag} {h : Heap} {mg : Str → Option Value} {f : Addr} (X : K.In h) (G : h.Ns mainGlobals mg) (hfa : mg ("law" : Str) = some (.ref f)) (c : He.SaysD fa fn K) :
    ∃ fd : FuncData, (∀ (s : Shared) (v : Value), BindsTo s fd ⟨[v], []⟩ [("_law_script", v)]) ∧ ∀ base : Heap, K.In base → base.Ns mainGlobals mg → FnOk P w K mg base (L2.CX P w) 5 f fd ["_law_script"] (PSp K mg F_law_k02) := by
  have hb : ∀ y ∈ bNames, mg y = none := by
    intro y hy
    simp only [bNames, List.mem_cons, List.not_mem_nil, or_false] at hy
    rcases hy with rfl | rfl | rfl | rfl | rfl | rfl | rfl | rfl | rfl | rfl | rfl | rfl | rfl | rfl | rfl | rfl | rfl | rfl
    · exact He.free_ok X G (c.fact 16 rfl)
    · exact He.free_ok X G (c.fact 17 rfl)
    · exact He.free_ok X G (c.fact 18 rfl)
    · exact He.free_ok X G (c.fact 19 rfl)
    · exact He.free_ok X G (c.fact 20 rfl)
    · exact He.free_ok X G (c.fact 21 rfl)
    · exact He.free_ok X G (c.fact 22 rfl)
    · exact He.free_ok X G (c.fact 23 rfl)
    · exact He.free_ok X G (c.fact 24 rfl)
    · exact He.free_ok X G (c.fact 25 rfl)
    · exact He.free_ok X G (c.fact 26 rfl)
    · exact He.free_ok X G (c.fact 27 rfl)
    · exact He.free_ok X G (c.fact 28 rfl)
    · exact He.free_ok X G (c.fact 29 rfl)
    · exact He.free_ok X G (c.fact 30 rfl)
    · exact He.free_ok X G (c.fact 31 rfl)
    · exact He.free_ok X G (c.fact 32 rfl)
    · exact He.free_ok X G (c.fact 33 rfl)
  obtain ⟨fd_least_of, F_Dleast_of⟩ := c.def_ 0 rfl
  obtain ⟨fd_joined_all, F_Djoined_all⟩ := c.def_ 1 rfl
  obtain ⟨fd_greatest_of, F_Dgreatest_of⟩ := c.def_ 2 rfl
  obtain ⟨fd_is_below, F_Dis_below⟩ := c.def_ 3 rfl
  obtain ⟨fd_below, F_Dbelow⟩ := c.def_ 4 rfl
  obtain ⟨fd_law_cell, F_Dlaw_cell⟩ := c.def_ 5 rfl
  obtain ⟨fd_law_pick, F_Dlaw_pick⟩ := c.def_ 6 rfl
  obtain ⟨fd_law_chain, F_Dlaw_chain⟩ := c.def_ 7 rfl
  obtain ⟨fd_law_couples, F_Dlaw_couples⟩ := c.def_ 8 rfl
  obtain ⟨fd_law_side_by_side, F_Dlaw_side_by_side⟩ := c.def_ 9 rfl
  obtain ⟨fd_law_base, F_Dlaw_base⟩ := c.def_ 10 rfl
  obtain ⟨fd_law_ladder, F_Dlaw_ladder⟩ := c.def_ 11 rfl
  obtain ⟨fd_law_low, F_Dlaw_low⟩ := c.def_ 12 rfl
  obtain ⟨fd_law_join, F_Dlaw_join⟩ := c.def_ 13 rfl
  obtain ⟨fd_law_under, F_Dlaw_under⟩ := c.def_ 14 rfl
  obtain ⟨fd_law_k02, F_Dlaw_k02⟩ := c.def_ 15 rfl
  have e := hfa.symm.trans (He.glo_ok X G (c.fact 15 (f := .glo "law") rfl))
  cases e
  refine ⟨fd_law_k02, fun s v => FunD.bindsA (ps := ["_law_script"]) F_Dlaw_k02 (fun _ _ _ _ _ _ us hl => match us, hl with | [_], _ => rfl) s [v] rfl, fun base _ _ => ?_⟩
  have h_least_of : HasL P w K mg base 1 "least_of" F_least_of := HasL.mk (by decide +kernel) (Nat.le_refl _) (o_least_of F_Dleast_of hb ) (He.glo_ok X G (c.fact 0 (f := .glo "least_of") rfl)) F_Dleast_of.kp (b_least_of F_Dleast_of)
  have h_joined_all : HasL P w K mg base 2 "joined_all" F_joined_all := HasL.mk (by decide +kernel) (Nat.le_refl _) (o_joined_all F_Djoined_all hb h_least_of) (He.glo_ok X G (c.fact 1 (f := .glo "joined_all") rfl)) F_Djoined_all.kp (b_joined_all F_Djoined_all)
  have h_greatest_of : HasL P w K mg base 3 "greatest_of" F_greatest_of := HasL.mk (by decide +kernel) (Nat.le_refl _) (o_greatest_of F_Dgreatest_of hb h_joined_all) (He.glo_ok X G (c.fact 2 (f := .glo "greatest_of") rfl)) F_Dgreatest_of.kp (b_greatest_of F_Dgreatest_of)
  have h_is_below : HasL P w K mg base 1 "is_below" F_is_below := HasL.mk (by decide +kernel) (Nat.le_refl _) (o_is_below F_Dis_below hb ) (He.glo_ok X G (c.fact 3 (f := .glo "is_below") rfl)) F_Dis_below.kp (b_is_below F_Dis_below)
  have h_below : HasL P w K mg base 2 "below" F_below := HasL.mk (by decide +kernel) (Nat.le_refl _) (o_below F_Dbelow hb h_is_below) (He.glo_ok X G (c.fact 4 (f := .glo "below") rfl)) F_Dbelow.kp (b_below F_Dbelow)
  have h_law_cell : HasL P w K mg base 1 "_law_cell" F_law_cell := HasL.mk (by decide +kernel) (Nat.le_refl _) (o_law_cell F_Dlaw_cell hb ) (He.glo_ok X G (c.fact 5 (f := .glo "_law_cell") rfl)) F_Dlaw_cell.kp (b_law_cell F_Dlaw_cell)
  have h_law_pick : HasL P w K mg base 2 "_law_pick" F_law_pick := HasL.mk (by decide +kernel) (Nat.le_refl _) (o_law_pick F_Dlaw_pick hb h_law_cell) (He.glo_ok X G (c.fact 6 (f := .glo "_law_pick") rfl)) F_Dlaw_pick.kp (b_law_pick F_Dlaw_pick)
  have h_law_chain : HasL P w K mg base 1 "_law_chain" F_law_chain := HasL.mk (by decide +kernel) (Nat.le_refl _) (o_law_chain F_Dlaw_chain hb ) (He.glo_ok X G (c.fact 7 (f := .glo "_law_chain") rfl)) F_Dlaw_chain.kp (b_law_chain F_Dlaw_chain)
  have h_law_couples : HasL P w K mg base 1 "_law_couples" F_law_couples := HasL.mk (by decide +kernel) (Nat.le_refl _) (o_law_couples F_Dlaw_couples hb ) (He.glo_ok X G (c.fact 8 (f := .glo "_law_couples") rfl)) F_Dlaw_couples.kp (b_law_couples F_Dlaw_couples)
  have h_law_side_by_side : HasL P w K mg base 1 "_law_side_by_side" F_law_side_by_side := HasL.mk (by decide +kernel) (Nat.le_refl _) (o_law_side_by_side F_Dlaw_side_by_side hb ) (He.glo_ok X G (c.fact 9 (f := .glo "_law_side_by_side") rfl)) F_Dlaw_side_by_side.kp (b_law_side_by_side F_Dlaw_side_by_side)
  have h_law_base : HasL P w K mg base 3 "_law_base" F_law_base := HasL.mk (by decide +kernel) (Nat.le_refl _) (o_law_base F_Dlaw_base hb h_law_pick h_law_chain h_law_couples h_law_side_by_side) (He.glo_ok X G (c.fact 10 (f := .glo "_law_base") rfl)) F_Dlaw_base.kp (b_law_base F_Dlaw_base)
  have h_law_ladder : HasL P w K mg base 4 "_law_ladder" F_law_ladder := HasL.mk (by decide +kernel) (Nat.le_refl _) (o_law_ladder F_Dlaw_ladder hb h_law_base h_law_pick) (He.glo_ok X G (c.fact 11 (f := .glo "_law_ladder") rfl)) F_Dlaw_ladder.kp (b_law_ladder F_Dlaw_ladder)
  have h_law_low : HasL P w K mg base 1 "_law_low" F_law_low := HasL.mk (by decide +kernel) (Nat.le_refl _) (o_law_low F_Dlaw_low hb ) (He.glo_ok X G (c.fact 12 (f := .glo "_law_low") rfl)) F_Dlaw_low.kp (b_law_low F_Dlaw_low)
  have h_law_join : HasL P w K mg base 2 "_law_join" F_law_join := HasL.mk (by decide +kernel) (Nat.le_refl _) (o_law_join F_Dlaw_join hb h_law_low) (He.glo_ok X G (c.fact 13 (f := .glo "_law_join") rfl)) F_Dlaw_join.kp (b_law_join F_Dlaw_join)
  have h_law_under : HasL P w K mg base 1 "_law_under" F_law_under := HasL.mk (by decide +kernel) (Nat.le_refl _) (o_law_under F_Dlaw_under hb ) (He.glo_ok X G (c.fact 14 (f := .glo "_law_under") rfl)) F_Dlaw_under.kp (b_law_under F_Dlaw_under)
  exact o_law_k02 F_Dlaw_k02 hb h_law_ladder h_law_low h_law_under h_least_of h_greatest_of h_below h_is_below h_law_pick h_joined_all h_law_join
end LhEnd
open PySem PySem.W PySem.Calls PyProof.Rows
theorem LhEnd.of_plain (hF : ∀ ns : List Int, ns.length ≤ 63 → Lh.F_law_k02 [.scr (ns.map .int)] = .ok (.bool true)) : PySem.Challenge.rw_ladderhall_k02_order.Holds := by
  w_on; o_law
  refine HandSHeadRun.head_any (r := OpenLaw.row PySem.Challenge.rw_ladderhall_k02_order) (q := view (OpenLaw.row PySem.Challenge.rw_ladderhall_k02_order).prog [17]) (H := LhEnd.hk) (ob := LhEnd.ob) (M := 1480) (loose := LhEnd.loose) (d := HandSHeadRun.topDef (OpenLaw.row PySem.Challenge.rw_ladderhall_k02_order).prog 17) (kwd := []) LhEnd.ob_eq
    (by kernel_rfl) (fun s => by kernel_rfl) LhEnd.run (by kernel_rfl) (by kernel_rfl) (by kernel_rfl) (by rfl) (by first | assumption | decide +kernel) (by decide +kernel) ⟨rfl, rfl, rfl, rfl, rfl, by decide +kernel⟩ ?hw ?hc
  case hw => w_witness2
  case hc =>
    refine L2.walk_ofE (l := PySem.Challenge.rw_ladderhall_k02_order) (n := 63) (k := 5) (x := "_law_script") (CX := Lh.CXany (PySem.Challenge.rw_ladderhall_k02_order).prog) rfl (by decide) (by kernel_rfl) ⟨rfl, by decide, by decide⟩ ?F Lh.no_exc
    intro w mg fa h Y G hmg0
    obtain ⟨K, KX, c⟩ := Y
    have hmg : mg ("law" : PySem.Str) = some (.ref fa) := by
      have e : (HandSHeadRun.topDef (OpenLaw.row PySem.Challenge.rw_ladderhall_k02_order).prog 17).name = ("law" : PySem.Str) := by kernel_rfl
      rw [← e]
      exact hmg0
    obtain ⟨fd, hb, hFn⟩ := LhEnd.facts (P := (PySem.Challenge.rw_ladderhall_k02_order).prog) (w := w) KX G hmg c
    exact ⟨K, fd, Lh.PSp K mg Lh.F_law_k02, KX, hb, fun H a ns hl ho hS => Lh.law_sp (hF ns hl) hl ho hS, fun base h1 h2 => Lh.fn_any (hFn base h1 h2)⟩
theorem PySem.Challenge.cw_ladderhall_k02_order_holds : PySem.Challenge.rw_ladderhall_k02_order.Holds := by
  exact LhEnd.of_plain fun ns hl => (Lh.plain_k02 ns).h
